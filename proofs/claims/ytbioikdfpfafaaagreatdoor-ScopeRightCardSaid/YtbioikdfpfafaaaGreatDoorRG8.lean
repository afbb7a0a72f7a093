/- The code, and what each function of it is walked to. No premise beyond what each theorem says. -/
import Derived.Test.YtbioikdfpfafaaaGreatDoorRG7
set_option linter.all false
set_option linter.unusedSimpArgs false
set_option linter.unusedVariables false
namespace Go.Proofs.YtbioikdfpfafaaaGreatDoor.R
open Go
section
open Go.Proofs.Tryz
set_option maxRecDepth 1000000
noncomputable section
noncomputable def xZfe : Fn xZ95 := ⟨f8, [], ⟨[], [], sbf, bof⟩, fun _ => [], [true], none, 0, 0, fun _ _ => true, none, [], []⟩
theorem xZeK : xZfe.Ok prog := ⟨Is.of (by kernel_rfl) (by kernel_rfl), by kernel_rfl, xZ4 sb_ok bo_ok, trivial, trivial, fun _ => by kernel_rfl⟩
theorem xZfi (N : Nat) : xZ95.Ok prog N := xZeK.give tb_ok hm N N (fun _ => trivial) fun a r s h => by
  have l0 := s.loop 0 xZ4k (xZ9X N) N fun next0 h0 => by
    have l2 := s.loop 2 xZ5f (xZ9D N next0) N fun next2 h2 => by
      exact fun c v => s.seg 2 xZ5f [(0, .of xZ4k next0), (2, .of xZ5f next2)] ⟨h0, h2, trivial⟩ (by kernel_rfl) (by kernel_rfl)
    exact fun c v => s.seg 0 xZ4k [(0, .of xZ4k next0), (2, .of xZ5f (xZdn N next0))] ⟨h0, l2, trivial⟩ (by kernel_rfl) (by kernel_rfl)
  exact s.main [(0, .of xZ4k (xZdm N))] ⟨l0, trivial⟩ (.trans (by kernel_rfl) h)
noncomputable def xZgz : Fn xZa1 := ⟨f23, [], ⟨[(28, 4)], [], sbf, bof⟩, fun _ => [], [true], none, 0, 0, fun _ _ => true, none, [], []⟩
theorem xZgl : xZgz.Ok prog := ⟨Is.of (by kernel_rfl) (by kernel_rfl), by kernel_rfl, xZ4 sb_ok bo_ok, trivial, trivial, fun _ => by kernel_rfl⟩
theorem xZgg (N : Nat) : xZa1.Ok prog N := xZgl.give tb_ok hm N N (fun _ => trivial) fun a r s h => by
  have l0 := s.loop 0 xZ6g (xZaO N) N fun next0 h0 => by
    exact fun c v => s.seg 0 xZ6g [(0, .of xZ6g next0)] ⟨h0, trivial⟩ (by kernel_rfl) (by kernel_rfl)
  exact s.main [(0, .of xZ6g (xZdU N))] ⟨l0, trivial⟩ (.trans (by kernel_rfl) h)
noncomputable def xZgh : Fn xZa8 := ⟨f10, [], ⟨[(43, 5)], [], sbf, bof⟩, fun _ => [xZa1], [true], none, 0, 0, fun _ _ => true, none, [], []⟩
theorem xZgE : xZgh.Ok prog := ⟨Is.of (by kernel_rfl) (by kernel_rfl), by kernel_rfl, xZ4 sb_ok bo_ok, trivial, trivial, fun _ => by kernel_rfl⟩
theorem xZgH (N : Nat) : xZa8.Ok prog N := xZgE.give tb_ok hm N N (fun _ => ⟨xZgg N, trivial⟩) fun a r s h => by
  have l0 := s.loop 0 xZ68 (xZaG N) N fun next0 h0 => by
    exact fun c v => s.seg 0 xZ68 [(0, .of xZ68 next0)] ⟨h0, trivial⟩ (by kernel_rfl) (by kernel_rfl)
  exact s.main [(0, .of xZ68 (xZes N))] ⟨l0, trivial⟩ (.trans (by kernel_rfl) h)
noncomputable def xZgk : Fn xZa6 := ⟨f12, [], ⟨[(39, 2), (44, 3)], [], sbf, bof⟩, fun _ => [], [true], none, 0, 0, fun _ _ => true, none, [], []⟩
theorem xZgx : xZgk.Ok prog := ⟨Is.of (by kernel_rfl) (by kernel_rfl), by kernel_rfl, xZ4 sb_ok bo_ok, trivial, trivial, fun _ => by kernel_rfl⟩
theorem xZgD (N : Nat) : xZa6.Ok prog N := xZgx.give tb_ok hm N N (fun _ => trivial) fun a r s h => by
  have l0 := s.loop 0 xZ4Z (xZaW N) N fun next0 h0 => by
    have l2 := s.loop 2 xZ6q (xZaX N next0) N fun next2 h2 => by
      exact fun c v => s.seg 2 xZ6q [(0, .of xZ4Z next0), (2, .of xZ6q next2)] ⟨h0, h2, trivial⟩ (by kernel_rfl) (by kernel_rfl)
    exact fun c v => s.seg 0 xZ4Z [(0, .of xZ4Z next0), (2, .of xZ6q (xZeg N next0))] ⟨h0, l2, trivial⟩ (by kernel_rfl) (by kernel_rfl)
  exact s.main [(0, .of xZ4Z (xZeo N))] ⟨l0, trivial⟩ (.trans (by kernel_rfl) h)
noncomputable def xZb1 : Fn xZ2O := ⟨f139, [], ⟨[], [], sbf, bof⟩, fun _ => [], [true], none, 0, 0, fun _ _ => true, none, [], []⟩
theorem xZbe : xZb1.Ok prog := ⟨Is.of (by kernel_rfl) (by kernel_rfl), by kernel_rfl, xZ4 sb_ok bo_ok, trivial, trivial, fun _ => by kernel_rfl⟩
theorem xZ51 (N : Nat) : xZ2O.Ok prog N := xZbe.give tb_ok hm N N (fun _ => trivial) fun a r s h => by
  exact s.main [] trivial (.trans (by kernel_rfl) h)
noncomputable def xZ9G : Fn xZ4i := ⟨f92, [], ⟨[], [], sbf, bof⟩, fun _ => [xZ2O], [true], none, 0, 0, fun _ _ => true, none, [], []⟩
theorem xZ9Y : xZ9G.Ok prog := ⟨Is.of (by kernel_rfl) (by kernel_rfl), by kernel_rfl, xZ4 sb_ok bo_ok, trivial, trivial, fun _ => by kernel_rfl⟩
theorem xZ9W (N : Nat) : xZ4i.Ok prog N := xZ9Y.give tb_ok hm N N (fun _ => ⟨xZ51 N, trivial⟩) fun a r s h => by
  exact s.main [] trivial (.trans (by kernel_rfl) h)
noncomputable def xZaa : Fn xZ4H := ⟨f140, [], ⟨[], [], sbf, bof⟩, fun _ => [], [true], none, 0, 0, fun _ _ => true, none, [], []⟩
theorem xZae : xZaa.Ok prog := ⟨Is.of (by kernel_rfl) (by kernel_rfl), by kernel_rfl, xZ4 sb_ok bo_ok, trivial, trivial, fun _ => by kernel_rfl⟩
theorem xZaB (N : Nat) : xZ4H.Ok prog N := xZae.give tb_ok hm N N (fun _ => trivial) fun a r s h => by
  exact s.main [] trivial (.trans (by kernel_rfl) h)
noncomputable def xZak : Fn xZ4J := ⟨f93, [], ⟨[], [], sbf, bof⟩, fun _ => [xZ2O, xZ4H, xZ46, xZ9d], [true], none, 0, 0, fun _ _ => true, none, [], []⟩
theorem xZat : xZak.Ok prog := ⟨Is.of (by kernel_rfl) (by kernel_rfl), by kernel_rfl, xZ4 sb_ok bo_ok, trivial, trivial, fun _ => by kernel_rfl⟩
theorem xZa7 (N : Nat) : xZ4J.Ok prog N := xZat.give tb_ok hm N N (fun _ => ⟨xZ51 N, xZaB N, xZ6m N, xZbZ N, trivial⟩) fun a r s h => by
  exact s.main [] trivial (.trans (by kernel_rfl) h)
noncomputable def xZbb : Fn xZ57 := ⟨f142, [], ⟨[], [], sbf, bof⟩, fun _ => [], [true], none, 0, 0, fun _ _ => true, none, [], []⟩
theorem xZb4 : xZbb.Ok prog := ⟨Is.of (by kernel_rfl) (by kernel_rfl), by kernel_rfl, xZ4 sb_ok bo_ok, trivial, trivial, fun _ => by kernel_rfl⟩
theorem xZbc (N : Nat) : xZ57.Ok prog N := xZb4.give tb_ok hm N N (fun _ => trivial) fun a r s h => by
  exact s.main [] trivial (.trans (by kernel_rfl) h)
noncomputable def xZb2 : Fn xZ55 := ⟨f94, [], ⟨[], [], sbf, bof⟩, fun _ => [xZ57], [true], none, 0, 0, fun _ _ => true, none, [], []⟩
theorem xZbg : xZb2.Ok prog := ⟨Is.of (by kernel_rfl) (by kernel_rfl), by kernel_rfl, xZ4 sb_ok bo_ok, trivial, trivial, fun _ => by kernel_rfl⟩
theorem xZb8 (N : Nat) : xZ55.Ok prog N := xZbg.give tb_ok hm N N (fun _ => ⟨xZbc N, trivial⟩) fun a r s h => by
  exact s.main [] trivial (.trans (by kernel_rfl) h)
noncomputable def xZb3 : Fn xZ3K := ⟨f95, [], ⟨[], [], sbf, bof⟩, fun _ => [xZ2O], [true], none, 0, 0, fun _ _ => true, none, [], []⟩
theorem xZbi : xZb3.Ok prog := ⟨Is.of (by kernel_rfl) (by kernel_rfl), by kernel_rfl, xZ4 sb_ok bo_ok, trivial, trivial, fun _ => by kernel_rfl⟩
theorem xZ87 (N : Nat) : xZ3K.Ok prog N := xZbi.give tb_ok hm N N (fun _ => ⟨xZ51 N, trivial⟩) fun a r s h => by
  exact s.main [] trivial (.trans (by kernel_rfl) h)
noncomputable def xZeQ : Fn xZ5B := ⟨f48, [], ⟨[], [], sbf, bof⟩, fun _ => [xZ4i, xZ4J, xZ55, xZ3K, xZ5B], [true, true], none, 0, 0, fun _ _ => true, none, [], []⟩
theorem xZbP : xZeQ.Ok prog := ⟨Is.of (by kernel_rfl) (by kernel_rfl), by kernel_rfl, xZ4 sb_ok bo_ok, trivial, trivial, fun _ => by kernel_rfl⟩
theorem xZaJ : ∀ N, xZ5B.Ok prog N
  | 0 => ⟨xZbP.is.enters, fun a r h => by (have h : none = some r := h; cases h)⟩
  | N + 1 => by
    obtain h_shape_tree := xZaJ N
    · exact xZbP.give tb_ok hm N (N + 1) (fun _ => ⟨xZ9W N, xZa7 N, xZb8 N, xZ87 N, h_shape_tree, trivial⟩) fun a r s h => by
        have l1 := s.loop 1 xZ5g (xZ9N N) N fun next1 h1 => by
          exact fun c v => s.seg 1 xZ5g [(1, .of xZ5g next1)] ⟨h1, trivial⟩ (by kernel_rfl) (by kernel_rfl)
        exact s.main [(1, .of xZ5g (xZdq N))] ⟨l1, trivial⟩ (.trans (by kernel_rfl) h)
theorem xZfc (N : Nat) : xZ5B.Ok prog N := (xZaJ N)
noncomputable def xZfk : Fn xZ9l := ⟨f50, [], ⟨[], [], sbf, bof⟩, fun _ => [], [true], none, 0, 0, fun _ _ => true, none, [], []⟩
theorem xZfq : xZfk.Ok prog := ⟨Is.of (by kernel_rfl) (by kernel_rfl), by kernel_rfl, xZ4 sb_ok bo_ok, trivial, trivial, fun _ => by kernel_rfl⟩
theorem xZfl (N : Nat) : xZ9l.Ok prog N := xZfq.give tb_ok hm N N (fun _ => trivial) fun a r s h => by
  exact s.main [] trivial (.trans (by kernel_rfl) h)
noncomputable def xZdO : Fn xZ6r := ⟨f24, [], ⟨[], [], sbf, bof⟩, fun _ => [xZ5B, xZ46, xZ9l], [true], none, 0, 0, fun _ _ => true, none, [], []⟩
theorem xZel : xZdO.Ok prog := ⟨Is.of (by kernel_rfl) (by kernel_rfl), by kernel_rfl, xZ4 sb_ok bo_ok, trivial, trivial, fun _ => by kernel_rfl⟩
theorem xZaM (N : Nat) : xZ6r.Ok prog N := xZel.give tb_ok hm N N (fun _ => ⟨xZfc N, xZ6m N, xZfl N, trivial⟩) fun a r s h => by
  exact s.main [] trivial (.trans (by kernel_rfl) h)
noncomputable def xZ9Q : Fn xZ29 := ⟨f55, [], ⟨[], [], sbf, bof⟩, fun _ => [], [true, true], none, 0, 0, fun _ _ => true, none, [], []⟩
theorem xZ9B : xZ9Q.Ok prog := ⟨Is.of (by kernel_rfl) (by kernel_rfl), by kernel_rfl, xZ4 sb_ok bo_ok, trivial, trivial, fun _ => by kernel_rfl⟩
theorem xZ4u (N : Nat) : xZ29.Ok prog N := xZ9B.give tb_ok hm N N (fun _ => trivial) fun a r s h => by
  have l0 := s.loop 0 xZ2u (xZ59 N) N fun next0 h0 => by
    exact fun c v => s.seg 0 xZ2u [(0, .of xZ2u next0)] ⟨h0, trivial⟩ (by kernel_rfl) (by kernel_rfl)
  exact s.main [(0, .of xZ2u (xZ8Q N))] ⟨l0, trivial⟩ (.trans (by kernel_rfl) h)
noncomputable def xZeR : Fn xZ9r := ⟨f99, [], ⟨[], [], sbf, bof⟩, fun _ => [], [true], none, 0, 0, fun _ _ => true, none, [], []⟩
theorem xZf5 : xZeR.Ok prog := ⟨Is.of (by kernel_rfl) (by kernel_rfl), by kernel_rfl, xZ4 sb_ok bo_ok, trivial, trivial, fun _ => by kernel_rfl⟩
theorem xZeH (N : Nat) : xZ9r.Ok prog N := xZf5.give tb_ok hm N N (fun _ => trivial) fun a r s h => by
  exact s.main [] trivial (.trans (by kernel_rfl) h)
end
end
section
open Go.Proofs.Tryz
set_option maxRecDepth 1000000
noncomputable section
noncomputable def xZ9M : Fn xZ4g := ⟨f51, [], ⟨[], [], sbf, bof⟩, fun _ => [xZ46, xZ29, xZ9r], [true], none, 0, 0, fun _ _ => true, none, [], []⟩
theorem xZ9x : xZ9M.Ok prog := ⟨Is.of (by kernel_rfl) (by kernel_rfl), by kernel_rfl, xZ4 sb_ok bo_ok, trivial, trivial, fun _ => by kernel_rfl⟩
theorem xZ9V (N : Nat) : xZ4g.Ok prog N := xZ9x.give tb_ok hm N N (fun _ => ⟨xZ6m N, xZ4u N, xZeH N, trivial⟩) fun a r s h => by
  have l0 := s.loop 0 xZ2t (xZ58 N) N fun next0 h0 => by
    exact fun c v => s.seg 0 xZ2t [(0, .of xZ2t next0)] ⟨h0, trivial⟩ (by kernel_rfl) (by kernel_rfl)
  exact s.main [(0, .of xZ2t (xZ8P N))] ⟨l0, trivial⟩ (.trans (by kernel_rfl) h)
noncomputable def xZdT : Fn xZ6j := ⟨f52, [], ⟨[], [], sbf, bof⟩, fun _ => [xZ23], [true, true], none, 0, 0, fun _ _ => true, none, [], []⟩
theorem xZea : xZdT.Ok prog := ⟨Is.of (by kernel_rfl) (by kernel_rfl), by kernel_rfl, xZ4 sb_ok bo_ok, trivial, trivial, fun _ => by kernel_rfl⟩
theorem xZaS (N : Nat) : xZ6j.Ok prog N := xZea.give tb_ok hm N N (fun _ => ⟨xZ3o N, trivial⟩) fun a r s h => by
  have l0 := s.loop 0 xZ4S (xZ8W N) N fun next0 h0 => by
    exact fun c v => s.seg 0 xZ4S [(0, .of xZ4S next0)] ⟨h0, trivial⟩ (by kernel_rfl) (by kernel_rfl)
  exact s.main [(0, .of xZ4S (xZcn N))] ⟨l0, trivial⟩ (.trans (by kernel_rfl) h)
noncomputable def xZd6 : Fn xZ86 := ⟨f25, [], ⟨[], [], sbf, bof⟩, fun _ => [xZ4g, xZ6j], [true], none, 0, 0, fun _ _ => true, none, [], []⟩
theorem xZdl : xZd6.Ok prog := ⟨Is.of (by kernel_rfl) (by kernel_rfl), by kernel_rfl, xZ4 sb_ok bo_ok, trivial, trivial, fun _ => by kernel_rfl⟩
theorem xZcN (N : Nat) : xZ86.Ok prog N := xZdl.give tb_ok hm N N (fun _ => ⟨xZ9V N, xZaS N, trivial⟩) fun a r s h => by
  have l0 := s.loop 0 xZ47 (xZ8k N) N fun next0 h0 => by
    exact fun c v => s.seg 0 xZ47 [(0, .of xZ47 next0)] ⟨h0, trivial⟩ (by kernel_rfl) (by kernel_rfl)
  exact s.main [(0, .of xZ47 (xZbF N))] ⟨l0, trivial⟩ (.trans (by kernel_rfl) h)
noncomputable def xZeO : Fn xZ2I := ⟨f28, [], ⟨[], [], sbf, bof⟩, fun _ => [], [true], none, 0, 0, fun _ _ => true, none, [], []⟩
theorem xZfu : xZeO.Ok prog := ⟨Is.of (by kernel_rfl) (by kernel_rfl), by kernel_rfl, xZ4 sb_ok bo_ok, trivial, trivial, fun _ => by kernel_rfl⟩
theorem xZ3S (N : Nat) : xZ2I.Ok prog N := xZfu.give tb_ok hm N N (fun _ => trivial) fun a r s h => by
  exact s.main [] trivial (.trans (by kernel_rfl) h)
noncomputable def xZau : Fn xZ4F := ⟨f143, [], ⟨[], [], sbf, bof⟩, fun _ => [], [true], none, 1, 0, fun _ _ => true, none, [], []⟩
theorem xZal : xZau.Ok prog := ⟨Is.of (by kernel_rfl) (by kernel_rfl), by kernel_rfl, xZ4 sb_ok bo_ok, trivial, trivial, fun _ => by kernel_rfl⟩
theorem xZay (N : Nat) : xZ4F.Ok prog N := xZal.give tb_ok hm N N (fun _ => trivial) fun a r s h => by
  exact s.main [] trivial (.trans (by kernel_rfl) h)
noncomputable def xZ4d : Fn xZ10 := ⟨f27, [], ⟨[], [], sbf, bof⟩, fun _ => [xZ4F], [true], none, 1, 0, fun _ _ => true, none, [], []⟩
theorem xZ4n : xZ4d.Ok prog := ⟨Is.of (by kernel_rfl) (by kernel_rfl), by kernel_rfl, xZ4 sb_ok bo_ok, trivial, trivial, fun _ => by kernel_rfl⟩
theorem xZ4v (N : Nat) : xZ10.Ok prog N := xZ4n.give tb_ok hm N N (fun _ => ⟨xZay N, trivial⟩) fun a r s h => by
  have l0 := s.loop 0 xZp (xZ1U N) N fun next0 h0 => by
    exact fun c v => s.seg 0 xZp [(0, .of xZp next0)] ⟨h0, trivial⟩ (by kernel_rfl) (by kernel_rfl)
  exact s.main [(0, .of xZp (xZ3P N))] ⟨l0, trivial⟩ (.trans (by kernel_rfl) h)
noncomputable def xZi4 : Fn xZ9T := ⟨f101, [], ⟨[], [], sbf, bof⟩, fun _ => [xZ10], [true], none, 0, 0, fun _ _ => true, none, [], []⟩
theorem xZhx : xZi4.Ok prog := ⟨Is.of (by kernel_rfl) (by kernel_rfl), by kernel_rfl, xZ4 sb_ok bo_ok, trivial, trivial, fun _ => by kernel_rfl⟩
theorem xZer (N : Nat) : xZ9T.Ok prog N := xZhx.give tb_ok hm N N (fun _ => ⟨xZ4v N, trivial⟩) fun a r s h => by
  exact s.main [] trivial (.trans (by kernel_rfl) h)
noncomputable def xZff : Fn xZ7S := ⟨f58, [], ⟨[], [], sbf, bof⟩, fun _ => [], [true], none, 0, 0, fun _ _ => true, none, [], []⟩
theorem xZf7 : xZff.Ok prog := ⟨Is.of (by kernel_rfl) (by kernel_rfl), by kernel_rfl, xZ4 sb_ok bo_ok, trivial, trivial, fun _ => by kernel_rfl⟩
theorem xZby (N : Nat) : xZ7S.Ok prog N := xZf7.give tb_ok hm N N (fun _ => trivial) fun a r s h => by
  exact s.main [] trivial (.trans (by kernel_rfl) h)
noncomputable def xZbB : Fn xZ5G := ⟨f102, [], ⟨[(2000011, 11), (2000015, 11), (2000018, 11)], [], sbf, bof⟩, fun _ => [], [true], none, 0, 0, fun _ _ => true, none, [], []⟩
theorem xZbH : xZbB.Ok prog := ⟨Is.of (by kernel_rfl) (by kernel_rfl), by kernel_rfl, xZ4 sb_ok bo_ok, trivial, trivial, fun _ => by kernel_rfl⟩
theorem xZbD (N : Nat) : xZ5G.Ok prog N := xZbH.give tb_ok hm N N (fun _ => trivial) fun a r s h => by
  have l0 := s.loop 0 xZ3d (xZ7w N) N fun next0 h0 => by
    exact fun c v => s.seg 0 xZ3d [(0, .of xZ3d next0)] ⟨h0, trivial⟩ (by kernel_rfl) (by kernel_rfl)
  exact s.main [(0, .of xZ3d (xZa3 N))] ⟨l0, trivial⟩ (.trans (by kernel_rfl) h)
noncomputable def xZ8E : Fn xZ1z := ⟨f53, [], ⟨[(2000029, 10), (2000040, 11)], [], sbf, bof⟩, fun _ => [xZ2I, xZ9T, xZ7S, xZ1z, xZ5G], [true, true], none, 1, 0, fun _ _ => true, none, [], []⟩
theorem xZ4X : xZ8E.Ok prog := ⟨Is.of (by kernel_rfl) (by kernel_rfl), by kernel_rfl, xZ4 sb_ok bo_ok, trivial, trivial, fun _ => by kernel_rfl⟩
theorem xZ4y : ∀ N, xZ1z.Ok prog N
  | 0 => ⟨xZ4X.is.enters, fun a r h => by (have h : none = some r := h; cases h)⟩
  | N + 1 => by
    obtain h_scope_flow_tree_v461 := xZ4y N
    · exact xZ4X.give tb_ok hm N (N + 1) (fun _ => ⟨xZ3S N, xZer N, xZby N, h_scope_flow_tree_v461, xZbD N, trivial⟩) fun a r s h => by
        have l0 := s.loop 0 xZ1L (xZ4l N) N fun next0 h0 => by
          exact fun c v => s.seg 0 xZ1L [(0, .of xZ1L next0)] ⟨h0, trivial⟩ (by kernel_rfl) (by kernel_rfl)
        exact s.main [(0, .of xZ1L (xZ7B N))] ⟨l0, trivial⟩ (.trans (by kernel_rfl) h)
theorem xZ8v (N : Nat) : xZ1z.Ok prog N := (xZ4y N)
noncomputable def xZf8 : Fn xZ9g := ⟨f26, [], ⟨[], [], sbf, bof⟩, fun _ => [xZ1z], [false], none, 0, 0, fun _ _ => true, none, [], []⟩
theorem xZfj : xZf8.Ok prog := ⟨Is.of (by kernel_rfl) (by kernel_rfl), by kernel_rfl, xZ4 sb_ok bo_ok, trivial, trivial, fun _ => by kernel_rfl⟩
theorem xZeM (N : Nat) : xZ9g.Ok prog N := xZfj.give tb_ok hm N N (fun _ => ⟨xZ8v N, trivial⟩) fun a r s h => by
  exact s.main [] trivial (.trans (by kernel_rfl) h)
noncomputable def xZ4s : Fn xZ12 := ⟨f27, [], ⟨[], [], sbf, bof⟩, fun _ => [xZ2I], [true], none, 0, 0, fun _ _ => true, none, [], []⟩
theorem xZ4r : xZ4s.Ok prog := ⟨Is.of (by kernel_rfl) (by kernel_rfl), by kernel_rfl, xZ4 sb_ok bo_ok, trivial, trivial, fun _ => by kernel_rfl⟩
theorem xZ4w (N : Nat) : xZ12.Ok prog N := xZ4r.give tb_ok hm N N (fun _ => ⟨xZ3S N, trivial⟩) fun a r s h => by
  have l0 := s.loop 0 xZt (xZ1T N) N fun next0 h0 => by
    exact fun c v => s.seg 0 xZt [(0, .of xZt next0)] ⟨h0, trivial⟩ (by kernel_rfl) (by kernel_rfl)
  exact s.main [(0, .of xZt (xZ3T N))] ⟨l0, trivial⟩ (.trans (by kernel_rfl) h)
noncomputable def xZ6T : Fn xZ1y := ⟨f54, [], ⟨[], [], sbf, bof⟩, fun _ => [xZ6j], [true, true], none, 2, 0, fun _ _ => true, none, [], []⟩
theorem xZ6v : xZ6T.Ok prog := ⟨Is.of (by kernel_rfl) (by kernel_rfl), by kernel_rfl, xZ4 sb_ok bo_ok, trivial, trivial, fun _ => by kernel_rfl⟩
theorem xZ3y (N : Nat) : xZ1y.Ok prog N := xZ6v.give tb_ok hm N N (fun _ => ⟨xZaS N, trivial⟩) fun a r s h => by
  exact s.main [] trivial (.trans (by kernel_rfl) h)
noncomputable def xZ6U : Fn xZ2m := ⟨f29, [], ⟨[], [], sbf, bof⟩, fun _ => [xZ2I, xZ1y, xZ29], [true], none, 2, 0, fun _ _ => true, none, [], []⟩
theorem xZ73 : xZ6U.Ok prog := ⟨Is.of (by kernel_rfl) (by kernel_rfl), by kernel_rfl, xZ4 sb_ok bo_ok, trivial, trivial, fun _ => by kernel_rfl⟩
theorem xZ6z (N : Nat) : xZ2m.Ok prog N := xZ73.give tb_ok hm N N (fun _ => ⟨xZ3S N, xZ3y N, xZ4u N, trivial⟩) fun a r s h => by
  have l0 := s.loop 0 xZ13 (xZ33 N) N fun next0 h0 => by
    exact fun c v => s.seg 0 xZ13 [(0, .of xZ13 next0)] ⟨h0, trivial⟩ (by kernel_rfl) (by kernel_rfl)
  exact s.main [(0, .of xZ13 (xZ5D N))] ⟨l0, trivial⟩ (.trans (by kernel_rfl) h)
noncomputable def xZ6w : Fn xZ1s := ⟨f56, [], ⟨[(2000036, 10), (2000037, 11)], [], sbf, bof⟩, fun _ => [xZ9T, xZ1y, xZ29], [true, true], none, 2, 0, fun _ _ => true, none, [], []⟩
theorem xZ76 : xZ6w.Ok prog := ⟨Is.of (by kernel_rfl) (by kernel_rfl), by kernel_rfl, xZ4 sb_ok bo_ok, trivial, trivial, fun _ => by kernel_rfl⟩
theorem xZ3u (N : Nat) : xZ1s.Ok prog N := xZ76.give tb_ok hm N N (fun _ => ⟨xZer N, xZ3y N, xZ4u N, trivial⟩) fun a r s h => by
  exact s.main [] trivial (.trans (by kernel_rfl) h)
end
end
section
open Go.Proofs.Tryz
set_option maxRecDepth 1000000
noncomputable section
noncomputable def xZb5 : Fn xZ50 := ⟨f170, [], ⟨[], [], sbf, bof⟩, fun _ => [], [true], none, 0, 0, fun _ _ => true, none, [], []⟩
theorem xZbk : xZb5.Ok prog := ⟨Is.of (by kernel_rfl) (by kernel_rfl), by kernel_rfl, xZ4 sb_ok bo_ok, trivial, trivial, fun _ => by kernel_rfl⟩
theorem xZba (N : Nat) : xZ50.Ok prog N := xZbk.give tb_ok hm N N (fun _ => trivial) fun a r s h => by
  exact s.main [] trivial (.trans (by kernel_rfl) h)
noncomputable def xZej : Fn xZ6e := ⟨f144, [], ⟨[], [], sbf, bof⟩, fun _ => [xZ50], [true], none, 0, 0, fun _ _ => true, none, [], []⟩
theorem xZdA : xZej.Ok prog := ⟨Is.of (by kernel_rfl) (by kernel_rfl), by kernel_rfl, xZ4 sb_ok bo_ok, trivial, trivial, fun _ => by kernel_rfl⟩
theorem xZaP (N : Nat) : xZ6e.Ok prog N := xZdA.give tb_ok hm N N (fun _ => ⟨xZba N, trivial⟩) fun a r s h => by
  exact s.main [] trivial (.trans (by kernel_rfl) h)
noncomputable def xZ7o : Fn xZU := ⟨f103, [], ⟨[], [], sbf, bof⟩, fun _ => [xZ1s, xZU, xZ6e], [true, true], none, 2, 0, fun _ _ => true, none, [], []⟩
theorem xZ45 : xZ7o.Ok prog := ⟨Is.of (by kernel_rfl) (by kernel_rfl), by kernel_rfl, xZ4 sb_ok bo_ok, trivial, trivial, fun _ => by kernel_rfl⟩
theorem xZ3B : ∀ N, xZU.Ok prog N
  | 0 => ⟨xZ45.is.enters, fun a r h => by (have h : none = some r := h; cases h)⟩
  | N + 1 => by
    obtain h_scope_checker_side_v714 := xZ3B N
    · exact xZ45.give tb_ok hm N (N + 1) (fun _ => ⟨xZ3u N, h_scope_checker_side_v714, xZaP N, trivial⟩) fun a r s h => by
        exact s.main [] trivial (.trans (by kernel_rfl) h)
theorem xZ7n (N : Nat) : xZU.Ok prog N := (xZ3B N)
noncomputable def xZcU : Fn xZ81 := ⟨f104, [], ⟨[], [], sbf, bof⟩, fun _ => [xZ6e], [true], none, 0, 0, fun _ _ => true, none, [], []⟩
theorem xZdu : xZcU.Ok prog := ⟨Is.of (by kernel_rfl) (by kernel_rfl), by kernel_rfl, xZ4 sb_ok bo_ok, trivial, trivial, fun _ => by kernel_rfl⟩
theorem xZdp (N : Nat) : xZ81.Ok prog N := xZdu.give tb_ok hm N N (fun _ => ⟨xZaP N, trivial⟩) fun a r s h => by
  exact s.main [] trivial (.trans (by kernel_rfl) h)
noncomputable def xZ7m : Fn xZ2A := ⟨f57, [], ⟨[], [], sbf, bof⟩, fun _ => [xZU, xZ81], [true], none, 2, 0, fun _ _ => true, none, [], []⟩
theorem xZ7z : xZ7m.Ok prog := ⟨Is.of (by kernel_rfl) (by kernel_rfl), by kernel_rfl, xZ4 sb_ok bo_ok, trivial, trivial, fun _ => by kernel_rfl⟩
theorem xZ7l (N : Nat) : xZ2A.Ok prog N := xZ7z.give tb_ok hm N N (fun _ => ⟨xZ7n N, xZdp N, trivial⟩) fun a r s h => by
  exact s.main [] trivial (.trans (by kernel_rfl) h)
noncomputable def xZ7t : Fn xZ2y := ⟨f30, [], ⟨[], [], sbf, bof⟩, fun _ => [xZ1s, xZ2A], [true], none, 2, 0, fun _ _ => true, none, [], []⟩
theorem xZ7s : xZ7t.Ok prog := ⟨Is.of (by kernel_rfl) (by kernel_rfl), by kernel_rfl, xZ4 sb_ok bo_ok, trivial, trivial, fun _ => by kernel_rfl⟩
theorem xZ7g (N : Nat) : xZ2y.Ok prog N := xZ7s.give tb_ok hm N N (fun _ => ⟨xZ3u N, xZ7l N, trivial⟩) fun a r s h => by
  have l2 := s.loop 2 xZ1d (xZ3h N) N fun next2 h2 => by
    exact fun c v => s.seg 2 xZ1d [(2, .of xZ1d next2)] ⟨h2, trivial⟩ (by kernel_rfl) (by kernel_rfl)
  have l0 := s.loop 0 xZ1b (xZ3m N) N fun next0 h0 => by
    exact fun c v => s.seg 0 xZ1b [(0, .of xZ1b next0), (2, .of xZ1d (xZ5P N))] ⟨h0, l2, trivial⟩ (by kernel_rfl) (by kernel_rfl)
  exact s.main [(0, .of xZ1b (xZ5R N))] ⟨l0, trivial⟩ (.trans (by kernel_rfl) h)
noncomputable def xZa9 : Fn xZ4D := ⟨f59, [], ⟨[(2000011, 11), (2000015, 11), (2000018, 11)], [], sbf, bof⟩, fun _ => [], [true], none, 0, 0, fun _ _ => true, none, [], []⟩
theorem xZaE : xZa9.Ok prog := ⟨Is.of (by kernel_rfl) (by kernel_rfl), by kernel_rfl, xZ4 sb_ok bo_ok, trivial, trivial, fun _ => by kernel_rfl⟩
theorem xZah (N : Nat) : xZ4D.Ok prog N := xZaE.give tb_ok hm N N (fun _ => trivial) fun a r s h => by
  have l0 := s.loop 0 xZ2D (xZ5M N) N fun next0 h0 => by
    exact fun c v => s.seg 0 xZ2D [(0, .of xZ2D next0)] ⟨h0, trivial⟩ (by kernel_rfl) (by kernel_rfl)
  exact s.main [(0, .of xZ2D (xZ9q N))] ⟨l0, trivial⟩ (.trans (by kernel_rfl) h)
noncomputable def xZ8c : Fn xZ1k := ⟨f31, [], ⟨[(2000025, 11)], [], sbf, bof⟩, fun _ => [xZ2I, xZ7S, xZ1k, xZ4D], [true, true, true], none, 1, 0, fun _ _ => true, none, [], []⟩
theorem xZ4x : xZ8c.Ok prog := ⟨Is.of (by kernel_rfl) (by kernel_rfl), by kernel_rfl, xZ4 sb_ok bo_ok, trivial, trivial, fun _ => by kernel_rfl⟩
theorem xZ4t : ∀ N, xZ1k.Ok prog N
  | 0 => ⟨xZ4x.is.enters, fun a r h => by (have h : none = some r := h; cases h)⟩
  | N + 1 => by
    obtain h_scope_heads_tree_v166 := xZ4t N
    · exact xZ4x.give tb_ok hm N (N + 1) (fun _ => ⟨xZ3S N, xZby N, h_scope_heads_tree_v166, xZah N, trivial⟩) fun a r s h => by
        have l0 := s.loop 0 xZ1D (xZ44 N) N fun next0 h0 => by
          exact fun c v => s.seg 0 xZ1D [(0, .of xZ1D next0)] ⟨h0, trivial⟩ (by kernel_rfl) (by kernel_rfl)
        exact s.main [(0, .of xZ1D (xZ7q N))] ⟨l0, trivial⟩ (.trans (by kernel_rfl) h)
theorem xZ8f (N : Nat) : xZ1k.Ok prog N := (xZ4t N)
noncomputable def xZe1 : Fn xZ8n := ⟨f11, [], ⟨[(2000094, 11), (2000101, 11)], [], sbf, bof⟩, fun _ => [xZ6r, xZ86, xZ9g, xZ12, xZ2I, xZ2m, xZ2y, xZ1k], [true, true], none, 0, 0, fun _ _ => true, some EqR.cls, [], []⟩
theorem xZdE : xZe1.Ok prog := ⟨Is.of (by kernel_rfl) (by kernel_rfl), by kernel_rfl, xZ4 sb_ok bo_ok, trivial, trivial, fun _ => by kernel_rfl⟩
theorem xZen (N : Nat) : xZ8n.Ok prog N := xZdE.give tb_ok hm N N (fun _ => ⟨xZaM N, xZcN N, xZeM N, xZ4w N, xZ3S N, xZ6z N, xZ7g N, xZ8f N, trivial⟩) fun a r s h => by
  have l4 := s.loop 4 xZ4U (xZ8S N) N fun next4 h4 => by
    exact fun c v => s.seg 4 xZ4U [(4, .of xZ4U next4)] ⟨h4, trivial⟩ (by kernel_rfl) (by kernel_rfl)
  have l2 := s.loop 2 xZ4M (xZ8T N) N fun next2 h2 => by
    exact fun c v => s.seg 2 xZ4M [(2, .of xZ4M next2), (4, .of xZ4U (xZcd N))] ⟨h2, l4, trivial⟩ (by kernel_rfl) (by kernel_rfl)
  have l0 := s.loop 0 xZ4Q (xZ8X N) N fun next0 h0 => by
    exact fun c v => s.seg 0 xZ4Q [(0, .of xZ4Q next0), (2, .of xZ4M (xZcg N))] ⟨h0, l2, trivial⟩ (by kernel_rfl) (by kernel_rfl)
  exact s.main [(0, .of xZ4Q (xZc8 N))] ⟨l0, trivial⟩ (.trans (by kernel_rfl) h)
noncomputable def xZ74 : Fn xZ2g := ⟨f77, [], ⟨[], [], sbf, bof⟩, fun _ => [], [true], none, 1, 0, fun _ _ => true, none, [], []⟩
theorem xZ7e : xZ74.Ok prog := ⟨Is.of (by kernel_rfl) (by kernel_rfl), by kernel_rfl, xZ4 sb_ok bo_ok, trivial, trivial, fun _ => by kernel_rfl⟩
theorem xZ75 (N : Nat) : xZ2g.Ok prog N := xZ7e.give tb_ok hm N N (fun _ => trivial) fun a r s h => by
  exact s.main [] trivial (.trans (by kernel_rfl) h)
noncomputable def xZeE : Fn xZ7D := ⟨f78, [], ⟨[], [], sbf, bof⟩, fun _ => [xZ3K], [true], none, 0, 0, fun _ _ => true, none, [], []⟩
theorem xZeU : xZeE.Ok prog := ⟨Is.of (by kernel_rfl) (by kernel_rfl), by kernel_rfl, xZ4 sb_ok bo_ok, trivial, trivial, fun _ => by kernel_rfl⟩
theorem xZc1 (N : Nat) : xZ7D.Ok prog N := xZeU.give tb_ok hm N N (fun _ => ⟨xZ87 N, trivial⟩) fun a r s h => by
  have l0 := s.loop 0 xZ5d (xZ9v N) N fun next0 h0 => by
    exact fun c v => s.seg 0 xZ5d [(0, .of xZ5d next0)] ⟨h0, trivial⟩ (by kernel_rfl) (by kernel_rfl)
  exact s.main [(0, .of xZ5d (xZd3 N))] ⟨l0, trivial⟩ (.trans (by kernel_rfl) h)
noncomputable def xZ6N : Fn xZ2k := ⟨f77, [], ⟨[], [], sbf, bof⟩, fun _ => [], [true], none, 1, 1, fun _ _ => true, none, [], []⟩
theorem xZ6G : xZ6N.Ok prog := ⟨Is.of (by kernel_rfl) (by kernel_rfl), by kernel_rfl, xZ4 sb_ok bo_ok, trivial, trivial, fun _ => by kernel_rfl⟩
theorem xZ6X (N : Nat) : xZ2k.Ok prog N := xZ6G.give tb_ok hm N N (fun _ => trivial) fun a r s h => by
  exact s.main [] trivial (.trans (by kernel_rfl) h)
end
end
end Go.Proofs.YtbioikdfpfafaaaGreatDoor.R
