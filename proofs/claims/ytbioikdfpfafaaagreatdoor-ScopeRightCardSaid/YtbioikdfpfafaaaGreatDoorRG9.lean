/- The code, and what each function of it is walked to. No premise beyond what each theorem says. -/
import Derived.Test.YtbioikdfpfafaaaGreatDoorRG8
set_option linter.all false
set_option linter.unusedSimpArgs false
set_option linter.unusedVariables false
namespace Go.Proofs.YtbioikdfpfafaaaGreatDoor.R
open Go
section
open Go.Proofs.Tryz
set_option maxRecDepth 1000000
noncomputable section
noncomputable def xZ7F : Fn xZV := ⟨f41, [], ⟨[(57, 0)], [], sbf, bof⟩, fun _ => [xZ2I, xZ2k, xZ7D, xZV], [], none, 1, 1, fun _ _ => true, some EqR.cls, [], []⟩
theorem xZ4j : xZ7F.Ok prog := ⟨Is.of (by kernel_rfl) (by kernel_rfl), by kernel_rfl, xZ4 sb_ok bo_ok, trivial, trivial, fun _ => by kernel_rfl⟩
theorem xZ3Y : ∀ N, xZV.Ok prog N
  | 0 => ⟨xZ4j.is.enters, fun a r h => by (have h : none = some r := h; cases h)⟩
  | N + 1 => by
    obtain h_scope_walker_tree_v950 := xZ3Y N
    · exact xZ4j.give tb_ok hm N (N + 1) (fun _ => ⟨xZ3S N, xZ6X N, xZc1 N, h_scope_walker_tree_v950, trivial⟩) fun a r s h => by
        have l3 := s.loop 3 xZ1x (xZ3v N) N fun next3 h3 => by
          exact fun c v => s.seg 3 xZ1x [(3, .of xZ1x next3)] ⟨h3, trivial⟩ (by kernel_rfl) (by kernel_rfl)
        have l5 := s.loop 5 xZ1o (xZ3w N) N fun next5 h5 => by
          exact fun c v => s.seg 5 xZ1o [(5, .of xZ1o next5)] ⟨h5, trivial⟩ (by kernel_rfl) (by kernel_rfl)
        have l1 := s.loop 1 xZ1u (xZ3D N) N fun next1 h1 => by
          exact fun c v => s.seg 1 xZ1u [(1, .of xZ1u next1)] ⟨h1, trivial⟩ (by kernel_rfl) (by kernel_rfl)
        exact s.main [(3, .of xZ1x (xZ6D N)), (5, .of xZ1o (xZ6P N)), (1, .of xZ1u (xZ6x N))] ⟨l3, l5, l1, trivial⟩ (.trans (by kernel_rfl) h)
theorem xZ7R (N : Nat) : xZV.Ok prog N := (xZ3Y N)
noncomputable def xZ7U : Fn xZ11 := ⟨f41, [], ⟨[(57, 0)], [], sbf, bof⟩, fun _ => [xZ2I, xZ2g, xZ7D, xZ11, xZV], [], none, 1, 0, fun _ _ => true, some EqR.cls, [], []⟩
theorem xZ49 : xZ7U.Ok prog := ⟨Is.of (by kernel_rfl) (by kernel_rfl), by kernel_rfl, xZ4 sb_ok bo_ok, trivial, trivial, fun _ => by kernel_rfl⟩
theorem xZ3W : ∀ N, xZ11.Ok prog N
  | 0 => ⟨xZ49.is.enters, fun a r h => by (have h : none = some r := h; cases h)⟩
  | N + 1 => by
    obtain h_scope_walker_tree_v577 := xZ3W N
    · exact xZ49.give tb_ok hm N (N + 1) (fun _ => ⟨xZ3S N, xZ75 N, xZc1 N, h_scope_walker_tree_v577, xZ7R N, trivial⟩) fun a r s h => by
        have l3 := s.loop 3 xZ1v (xZ3t N) N fun next3 h3 => by
          exact fun c v => s.seg 3 xZ1v [(3, .of xZ1v next3)] ⟨h3, trivial⟩ (by kernel_rfl) (by kernel_rfl)
        have l5 := s.loop 5 xZ1r (xZ3F N) N fun next5 h5 => by
          exact fun c v => s.seg 5 xZ1r [(5, .of xZ1r next5)] ⟨h5, trivial⟩ (by kernel_rfl) (by kernel_rfl)
        have l1 := s.loop 1 xZ1t (xZ3G N) N fun next1 h1 => by
          exact fun c v => s.seg 1 xZ1t [(1, .of xZ1t next1)] ⟨h1, trivial⟩ (by kernel_rfl) (by kernel_rfl)
        exact s.main [(3, .of xZ1v (xZ7a N)), (5, .of xZ1r (xZ7b N)), (1, .of xZ1t (xZ71 N))] ⟨l3, l5, l1, trivial⟩ (.trans (by kernel_rfl) h)
theorem xZ7Y (N : Nat) : xZ11.Ok prog N := (xZ3W N)
noncomputable def xZeT : Fn xZ91 := ⟨f18, [], ⟨[], [], sbf, bof⟩, fun _ => [xZ6r, xZ11], [true], none, 0, 0, fun _ _ => true, none, [], []⟩
theorem xZf0 : xZeT.Ok prog := ⟨Is.of (by kernel_rfl) (by kernel_rfl), by kernel_rfl, xZ4 sb_ok bo_ok, trivial, trivial, fun _ => by kernel_rfl⟩
theorem xZeZ (N : Nat) : xZ91.Ok prog N := xZf0.give tb_ok hm N N (fun _ => ⟨xZaM N, xZ7Y N, trivial⟩) fun a r s h => by
  exact s.main [] trivial (.trans (by kernel_rfl) h)
noncomputable def xZav : Fn xZ7y := ⟨f6, [], ⟨[], [], sbf, bof⟩, fun _ => [xZ9t, xZaK, xZ95, xZa8, xZa6, xZ8n, xZ91], [true], none, 0, 0, fun _ _ => true, none, [], []⟩
theorem xZa2 : xZav.Ok prog := ⟨Is.of (by kernel_rfl) (by kernel_rfl), by kernel_rfl, xZ4 sb_ok bo_ok, trivial, trivial, fun _ => by kernel_rfl⟩
theorem xZaf (N : Nat) : xZ7y.Ok prog N := xZa2.give tb_ok hm N N (fun _ => ⟨xZfd N, xZdG N, xZfi N, xZgH N, xZgD N, xZen N, xZeZ N, trivial⟩) fun a r s h => by
  have l2 := s.loop 2 xZ1l (xZ5J N) N fun next2 h2 => by
    have l8 := s.loop 8 xZ2C (xZ5I N next2) N fun next8 h8 => by
      exact fun c v => s.seg 8 xZ2C [(2, .of xZ1l next2), (8, .of xZ2C next8)] ⟨h2, h8, trivial⟩ (by kernel_rfl) (by kernel_rfl)
    have l4 := s.loop 4 xZ1X (xZ5H N next2) N fun next4 h4 => by
      have l6 := s.loop 6 xZ2K (xZ5v N next4) N fun next6 h6 => by
        exact fun c v => s.seg 6 xZ2K [(4, .of xZ1X next4), (6, .of xZ2K next6)] ⟨h4, h6, trivial⟩ (by kernel_rfl) (by kernel_rfl)
      exact fun c v => s.seg 4 xZ1X [(2, .of xZ1l next2), (4, .of xZ1X next4), (6, .of xZ2K (xZ9o N next4)), (8, .of xZ2C (xZ8Z N next2))] ⟨h2, h4, l6, l8, trivial⟩ (by kernel_rfl) (by kernel_rfl)
    exact fun c v => s.seg 2 xZ1l [(2, .of xZ1l next2), (4, .of xZ1X (xZ90 N next2))] ⟨h2, l4, trivial⟩ (by kernel_rfl) (by kernel_rfl)
  have l0 := s.loop 0 xZ2G (xZ5F N) N fun next0 h0 => by
    exact fun c v => s.seg 0 xZ2G [(0, .of xZ2G next0), (2, .of xZ1l (xZ97 N))] ⟨h0, l2, trivial⟩ (by kernel_rfl) (by kernel_rfl)
  exact s.main [(0, .of xZ2G (xZ9s N))] ⟨l0, trivial⟩ (.trans (by kernel_rfl) h)
end
end
end Go.Proofs.YtbioikdfpfafaaaGreatDoor.R
