/- The code, and what each function of it is walked to. No premise beyond what each theorem says. -/
import Derived.Test.YtbioikdfpfafaaaGreatDoorRG3
set_option linter.all false
set_option linter.unusedSimpArgs false
set_option linter.unusedVariables false
namespace Go.Proofs.YtbioikdfpfafaaaGreatDoor.R
open Go
section
open Go.Proofs.Tryz
set_option maxRecDepth 1000000
noncomputable section
noncomputable def xZb7 : Fn xZ53 := ⟨f185, [], ⟨[], [], sbf, bof⟩, fun _ => [xZ5l, xZ46, xZ8o], [true], none, 0, 0, fun _ _ => true, none, [], []⟩
theorem xZb9 : xZb7.Ok prog := ⟨Is.of (by kernel_rfl) (by kernel_rfl), by kernel_rfl, xZ4 sb_ok bo_ok, trivial, trivial, fun _ => by kernel_rfl⟩
theorem xZb0 (N : Nat) : xZ53.Ok prog N := xZb9.give tb_ok hm N N (fun _ => ⟨xZ9w N, xZ6m N, xZe8 N, trivial⟩) fun a r s h => by
  exact s.main [] trivial (.trans (by kernel_rfl) h)
noncomputable def xZcQ : Fn xZ7P := ⟨f184, [], ⟨[], [], sbf, bof⟩, fun _ => [xZ53], [true], none, 0, 0, fun _ _ => true, none, [], []⟩
theorem xZcI : xZcQ.Ok prog := ⟨Is.of (by kernel_rfl) (by kernel_rfl), by kernel_rfl, xZ4 sb_ok bo_ok, trivial, trivial, fun _ => by kernel_rfl⟩
theorem xZd7 (N : Nat) : xZ7P.Ok prog N := xZcI.give tb_ok hm N N (fun _ => ⟨xZb0 N, trivial⟩) fun a r s h => by
  exact s.main [] trivial (.trans (by kernel_rfl) h)
noncomputable def xZdy : Fn xZ7N := ⟨f184, [], ⟨[], [], sbf, bof⟩, fun _ => [xZ5C], [true], none, 0, 0, fun _ _ => true, none, [], []⟩
theorem xZdb : xZdy.Ok prog := ⟨Is.of (by kernel_rfl) (by kernel_rfl), by kernel_rfl, xZ4 sb_ok bo_ok, trivial, trivial, fun _ => by kernel_rfl⟩
theorem xZdv (N : Nat) : xZ7N.Ok prog N := xZdb.give tb_ok hm N N (fun _ => ⟨xZ8z N, trivial⟩) fun a r s h => by
  exact s.main [] trivial (.trans (by kernel_rfl) h)
noncomputable def xZge : Fn xZap := ⟨f187, [], ⟨[], [], sbf, bof⟩, fun _ => [], [true], none, 0, 0, fun _ _ => true, none, [], []⟩
theorem xZgp : xZge.Ok prog := ⟨Is.of (by kernel_rfl) (by kernel_rfl), by kernel_rfl, xZ4 sb_ok bo_ok, trivial, trivial, fun _ => by kernel_rfl⟩
theorem xZgA (N : Nat) : xZap.Ok prog N := xZgp.give tb_ok hm N N (fun _ => trivial) fun a r s h => by
  exact s.main [] trivial (.trans (by kernel_rfl) h)
noncomputable def xZcl : Fn xZ7d := ⟨f188, [], ⟨[], [], sbf, bof⟩, fun _ => [], [true], none, 0, 0, fun _ _ => true, none, [], []⟩
theorem xZca : xZcl.Ok prog := ⟨Is.of (by kernel_rfl) (by kernel_rfl), by kernel_rfl, xZ4 sb_ok bo_ok, trivial, trivial, fun _ => by kernel_rfl⟩
theorem xZcm (N : Nat) : xZ7d.Ok prog N := xZca.give tb_ok hm N N (fun _ => trivial) fun a r s h => by
  exact s.main [] trivial (.trans (by kernel_rfl) h)
noncomputable def xZ7H : Fn xZ14 := ⟨f169, [], ⟨[], [], sbf, bof⟩, fun _ => [xZ4C, xZ7P, xZ7N, xZap, xZ7d, xZ14], [true], none, 1, 0, fun _ _ => true, none, [], []⟩
theorem xZ48 : xZ7H.Ok prog := ⟨Is.of (by kernel_rfl) (by kernel_rfl), by kernel_rfl, xZ4 sb_ok bo_ok, trivial, trivial, fun _ => by kernel_rfl⟩
theorem xZ43 : ∀ N, xZ14.Ok prog N
  | 0 => ⟨xZ48.is.enters, fun a r h => by (have h : none = some r := h; cases h)⟩
  | N + 1 => by
    obtain h_pred_checker_tree_v739 := xZ43 N
    · exact xZ48.give tb_ok hm N (N + 1) (fun _ => ⟨xZaC N, xZd7 N, xZdv N, xZgA N, xZcm N, h_pred_checker_tree_v739, trivial⟩) fun a r s h => by
        have l0 := s.loop 0 xZ1p (xZ3C N) N fun next0 h0 => by
          exact fun c v => s.seg 0 xZ1p [(0, .of xZ1p next0)] ⟨h0, trivial⟩ (by kernel_rfl) (by kernel_rfl)
        exact s.main [(0, .of xZ1p (xZ77 N))] ⟨l0, trivial⟩ (.trans (by kernel_rfl) h)
theorem xZ7K (N : Nat) : xZ14.Ok prog N := (xZ43 N)
noncomputable def xZf3 : Fn xZ9d := ⟨f141, [], ⟨[], [], sbf, bof⟩, fun _ => [xZ14], [true], none, 0, 0, fun _ _ => true, none, [], []⟩
theorem xZf9 : xZf3.Ok prog := ⟨Is.of (by kernel_rfl) (by kernel_rfl), by kernel_rfl, xZ4 sb_ok bo_ok, trivial, trivial, fun _ => by kernel_rfl⟩
theorem xZbZ (N : Nat) : xZ9d.Ok prog N := xZf9.give tb_ok hm N N (fun _ => ⟨xZ7K N, trivial⟩) fun a r s h => by
  exact s.main [] trivial (.trans (by kernel_rfl) h)
end
end
end Go.Proofs.YtbioikdfpfafaaaGreatDoor.R
