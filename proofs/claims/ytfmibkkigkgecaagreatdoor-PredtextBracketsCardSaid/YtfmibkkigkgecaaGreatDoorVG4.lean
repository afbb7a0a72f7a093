/- The code, and what each function of it is walked to. No premise beyond what each theorem says. -/
import Derived.Test.YtfmibkkigkgecaaGreatDoorVG3
set_option linter.all false
set_option linter.unusedSimpArgs false
set_option linter.unusedVariables false
namespace Go.Proofs.YtfmibkkigkgecaaGreatDoor.V
open Go
section
open Go.Proofs.Tryz
set_option maxRecDepth 1000000
noncomputable section
noncomputable def F_ref05_Sign : Fn C_ref05_Sign := ⟨f137, [], ⟨[(4, 6)], [], sbf, bof⟩, [], [true], none, 0, 0⟩
theorem o_ref05_Sign : F_ref05_Sign.Ok prog := ⟨Is.of (by kernel_rfl) (by kernel_rfl), by kernel_rfl, hint_sb sb_ok bo_ok, trivial, trivial, fun _ => by kernel_rfl⟩
theorem c_ref05_Sign (N : Nat) : C_ref05_Sign.Ok prog N := o_ref05_Sign.give tb_ok hm N N trivial fun a r s h => by
  exact s.main [] trivial (.trans (by kernel_rfl) h)
noncomputable def F_ref05_Op : Fn C_ref05_Op := ⟨f106, [], ⟨[], [], sbf, bof⟩, [C_ref05_Sign], [true], none, 0, 0⟩
theorem o_ref05_Op : F_ref05_Op.Ok prog := ⟨Is.of (by kernel_rfl) (by kernel_rfl), by kernel_rfl, hint_sb sb_ok bo_ok, trivial, trivial, fun _ => by kernel_rfl⟩
theorem c_ref05_Op (N : Nat) : C_ref05_Op.Ok prog N := o_ref05_Op.give tb_ok hm N N ⟨c_ref05_Sign N, trivial⟩ fun a r s h => by
  have l0 := s.loop 0 q_ref05_Op_0 (f_ref05_Op_0 N) N fun next0 h0 => by
    exact fun c v => s.seg 0 q_ref05_Op_0 [(0, .of q_ref05_Op_0 next0)] ⟨h0, trivial⟩ (by kernel_rfl) (by kernel_rfl)
  exact s.main [(0, .of q_ref05_Op_0 (r_ref05_Op_0 N))] ⟨l0, trivial⟩ (.trans (by kernel_rfl) h)
noncomputable def F_ref12_or : Fn C_ref12_or := ⟨f29, [], ⟨[], [], sbf, bof⟩, [C_ref12_and, C_ref12_is, C_ref12_step, C_ref12_join], [true, true], none, 0, 0⟩
theorem o_ref12_or : F_ref12_or.Ok prog := ⟨Is.of (by kernel_rfl) (by kernel_rfl), by kernel_rfl, hint_sb sb_ok bo_ok, trivial, trivial, fun _ => by kernel_rfl⟩
noncomputable def F_ref12_and : Fn C_ref12_and := ⟨f43, [], ⟨[], [], sbf, bof⟩, [C_ref12_part, C_ref12_is, C_ref12_step, C_ref12_join], [true, true], none, 0, 0⟩
theorem o_ref12_and : F_ref12_and.Ok prog := ⟨Is.of (by kernel_rfl) (by kernel_rfl), by kernel_rfl, hint_sb sb_ok bo_ok, trivial, trivial, fun _ => by kernel_rfl⟩
noncomputable def F_ref12_part : Fn C_ref12_part := ⟨f70, [], ⟨[], [], sbf, bof⟩, [C_ref12_is, C_ref12_fail, C_ref12_step, C_ref12_part, C_ref12_join, C_ref12_or, C_ref12_sum, C_ref12_kind, C_ref05_Op], [true, true], none, 0, 0⟩
theorem o_ref12_part : F_ref12_part.Ok prog := ⟨Is.of (by kernel_rfl) (by kernel_rfl), by kernel_rfl, hint_sb sb_ok bo_ok, trivial, trivial, fun _ => by kernel_rfl⟩
theorem cs_ref12_or : ∀ N, C_ref12_or.Ok prog N ∧ C_ref12_and.Ok prog N ∧ C_ref12_part.Ok prog N
  | 0 => ⟨⟨o_ref12_or.is.enters, fun a r h => by (have h : none = some r := h; cases h)⟩, ⟨o_ref12_and.is.enters, fun a r h => by (have h : none = some r := h; cases h)⟩, ⟨o_ref12_part.is.enters, fun a r h => by (have h : none = some r := h; cases h)⟩⟩
  | N + 1 => by
    obtain ⟨h_ref12_or, h_ref12_and, h_ref12_part⟩ := cs_ref12_or N
    refine ⟨?_, ?_, ?_⟩
    · exact o_ref12_or.give tb_ok hm N (N + 1) ⟨h_ref12_and, c_ref12_is N, c_ref12_step N, c_ref12_join N, trivial⟩ fun a r s h => by
        have l0 := s.loop 0 q_ref12_or_0 (f_ref12_or_0 N) N fun next0 h0 => by
          exact fun c v => s.seg 0 q_ref12_or_0 [(0, .of q_ref12_or_0 next0)] ⟨h0, trivial⟩ (by kernel_rfl) (by kernel_rfl)
        exact s.main [(0, .of q_ref12_or_0 (r_ref12_or_0 N))] ⟨l0, trivial⟩ (.trans (by kernel_rfl) h)
    · exact o_ref12_and.give tb_ok hm N (N + 1) ⟨h_ref12_part, c_ref12_is N, c_ref12_step N, c_ref12_join N, trivial⟩ fun a r s h => by
        have l0 := s.loop 0 q_ref12_and_0 (f_ref12_and_0 N) N fun next0 h0 => by
          exact fun c v => s.seg 0 q_ref12_and_0 [(0, .of q_ref12_and_0 next0)] ⟨h0, trivial⟩ (by kernel_rfl) (by kernel_rfl)
        exact s.main [(0, .of q_ref12_and_0 (r_ref12_and_0 N))] ⟨l0, trivial⟩ (.trans (by kernel_rfl) h)
    · exact o_ref12_part.give tb_ok hm N (N + 1) ⟨c_ref12_is N, c_ref12_fail N, c_ref12_step N, h_ref12_part, c_ref12_join N, h_ref12_or, c_ref12_sum N, c_ref12_kind N, c_ref05_Op N, trivial⟩ fun a r s h => by
        exact s.main [] trivial (.trans (by kernel_rfl) h)
theorem c_ref12_or (N : Nat) : C_ref12_or.Ok prog N := (cs_ref12_or N).1
noncomputable def F_ref11_may : Fn C_ref11_may := ⟨f71, [], ⟨[], [], sbf, bof⟩, [], [true], none, 0, 0⟩
theorem o_ref11_may : F_ref11_may.Ok prog := ⟨Is.of (by kernel_rfl) (by kernel_rfl), by kernel_rfl, hint_sb sb_ok bo_ok, trivial, trivial, fun _ => by kernel_rfl⟩
theorem c_ref11_may (N : Nat) : C_ref11_may.Ok prog N := o_ref11_may.give tb_ok hm N N trivial fun a r s h => by
  exact s.main [] trivial (.trans (by kernel_rfl) h)
noncomputable def F_ref06_Name : Fn C_ref06_Name := ⟨f107, [], ⟨[], [], sbf, bof⟩, [C_ref06_Reserved], [true], none, 0, 0⟩
theorem o_ref06_Name : F_ref06_Name.Ok prog := ⟨Is.of (by kernel_rfl) (by kernel_rfl), by kernel_rfl, hint_sb sb_ok bo_ok, trivial, trivial, fun _ => by kernel_rfl⟩
theorem c_ref06_Name (N : Nat) : C_ref06_Name.Ok prog N := o_ref06_Name.give tb_ok hm N N ⟨c_ref06_Reserved N, trivial⟩ fun a r s h => by
  have l0 := s.loop 0 q_ref06_Name_0 (f_ref06_Name_0 N) N fun next0 h0 => by
    exact fun c v => s.seg 0 q_ref06_Name_0 [(0, .of q_ref06_Name_0 next0)] ⟨h0, trivial⟩ (by kernel_rfl) (by kernel_rfl)
  exact s.main [(0, .of q_ref06_Name_0 (r_ref06_Name_0 N))] ⟨l0, trivial⟩ (.trans (by kernel_rfl) h)
noncomputable def F_ref04_Check : Fn C_ref04_Check := ⟨f108, [], ⟨[], [], sbf, bof⟩, [C_ref03_Clean], [true], none, 0, 0⟩
theorem o_ref04_Check : F_ref04_Check.Ok prog := ⟨Is.of (by kernel_rfl) (by kernel_rfl), by kernel_rfl, hint_sb sb_ok bo_ok, trivial, trivial, fun _ => by kernel_rfl⟩
theorem c_ref04_Check (N : Nat) : C_ref04_Check.Ok prog N := o_ref04_Check.give tb_ok hm N N ⟨c_ref03_Clean N, trivial⟩ fun a r s h => by
  exact s.main [] trivial (.trans (by kernel_rfl) h)
noncomputable def F_ref11_needs : Fn C_ref11_needs := ⟨f72, [], ⟨[], [], sbf, bof⟩, [C_ref06_Name, C_ref04_Check], [true], none, 0, 0⟩
theorem o_ref11_needs : F_ref11_needs.Ok prog := ⟨Is.of (by kernel_rfl) (by kernel_rfl), by kernel_rfl, hint_sb sb_ok bo_ok, trivial, trivial, fun _ => by kernel_rfl⟩
theorem c_ref11_needs (N : Nat) : C_ref11_needs.Ok prog N := o_ref11_needs.give tb_ok hm N N ⟨c_ref06_Name N, c_ref04_Check N, trivial⟩ fun a r s h => by
  exact s.main [] trivial (.trans (by kernel_rfl) h)
noncomputable def F_ref11_Kids : Fn C_ref11_Kids := ⟨f73, [], ⟨[], [], sbf, bof⟩, [], [true], none, 0, 0⟩
theorem o_ref11_Kids : F_ref11_Kids.Ok prog := ⟨Is.of (by kernel_rfl) (by kernel_rfl), by kernel_rfl, hint_sb sb_ok bo_ok, trivial, trivial, fun _ => by kernel_rfl⟩
theorem c_ref11_Kids (N : Nat) : C_ref11_Kids.Ok prog N := o_ref11_Kids.give tb_ok hm N N trivial fun a r s h => by
  exact s.main [] trivial (.trans (by kernel_rfl) h)
noncomputable def F_ref11_kid : Fn C_ref11_kid := ⟨f74, [], ⟨[], [], sbf, bof⟩, [], [true], none, 0, 0⟩
theorem o_ref11_kid : F_ref11_kid.Ok prog := ⟨Is.of (by kernel_rfl) (by kernel_rfl), by kernel_rfl, hint_sb sb_ok bo_ok, trivial, trivial, fun _ => by kernel_rfl⟩
theorem c_ref11_kid (N : Nat) : C_ref11_kid.Ok prog N := o_ref11_kid.give tb_ok hm N N trivial fun a r s h => by
  exact s.main [] trivial (.trans (by kernel_rfl) h)
noncomputable def F_ref11_tree : Fn C_ref11_tree := ⟨f47, [], ⟨[], [], sbf, bof⟩, [C_ref11_may, C_ref11_needs, C_ref11_Kids, C_ref11_kid, C_ref11_tree], [true, true], none, 0, 0⟩
theorem o_ref11_tree : F_ref11_tree.Ok prog := ⟨Is.of (by kernel_rfl) (by kernel_rfl), by kernel_rfl, hint_sb sb_ok bo_ok, trivial, trivial, fun _ => by kernel_rfl⟩
theorem cs_ref11_tree : ∀ N, C_ref11_tree.Ok prog N
  | 0 => ⟨o_ref11_tree.is.enters, fun a r h => by (have h : none = some r := h; cases h)⟩
  | N + 1 => by
    obtain h_ref11_tree := cs_ref11_tree N
    · exact o_ref11_tree.give tb_ok hm N (N + 1) ⟨c_ref11_may N, c_ref11_needs N, c_ref11_Kids N, c_ref11_kid N, h_ref11_tree, trivial⟩ fun a r s h => by
        have l0 := s.loop 0 q_ref11_tree_0 (f_ref11_tree_0 N) N fun next0 h0 => by
          exact fun c v => s.seg 0 q_ref11_tree_0 [(0, .of q_ref11_tree_0 next0)] ⟨h0, trivial⟩ (by kernel_rfl) (by kernel_rfl)
        exact s.main [(0, .of q_ref11_tree_0 (r_ref11_tree_0 N))] ⟨l0, trivial⟩ (.trans (by kernel_rfl) h)
theorem c_ref11_tree (N : Nat) : C_ref11_tree.Ok prog N := (cs_ref11_tree N)
noncomputable def F_ref11_Check : Fn C_ref11_Check := ⟨f30, [], ⟨[], [], sbf, bof⟩, [C_ref11_tree], [true], none, 0, 0⟩
theorem o_ref11_Check : F_ref11_Check.Ok prog := ⟨Is.of (by kernel_rfl) (by kernel_rfl), by kernel_rfl, hint_sb sb_ok bo_ok, trivial, trivial, fun _ => by kernel_rfl⟩
theorem c_ref11_Check (N : Nat) : C_ref11_Check.Ok prog N := o_ref11_Check.give tb_ok hm N N ⟨c_ref11_tree N, trivial⟩ fun a r s h => by
  exact s.main [] trivial (.trans (by kernel_rfl) h)
noncomputable def F_ref12_Parse : Fn C_ref12_Parse := ⟨f11, [], ⟨[], [], sbf, bof⟩, [C_ref12_or, C_ref11_Check, C_ref12_place], [true, true, true], none, 0, 0⟩
theorem o_ref12_Parse : F_ref12_Parse.Ok prog := ⟨Is.of (by kernel_rfl) (by kernel_rfl), by kernel_rfl, hint_sb sb_ok bo_ok, trivial, trivial, fun _ => by kernel_rfl⟩
theorem c_ref12_Parse (N : Nat) : C_ref12_Parse.Ok prog N := o_ref12_Parse.give tb_ok hm N N ⟨c_ref12_or N, c_ref11_Check N, c_ref12_place N, trivial⟩ fun a r s h => by
  exact s.main [] trivial (.trans (by kernel_rfl) h)
noncomputable def F_law11_Back : Fn C_law11_Back := ⟨f13, [], ⟨[(28, 3)], [], sbf, bof⟩, [], [true], none, 0, 0⟩
theorem o_law11_Back : F_law11_Back.Ok prog := ⟨Is.of (by kernel_rfl) (by kernel_rfl), by kernel_rfl, hint_sb sb_ok bo_ok, trivial, trivial, fun _ => by kernel_rfl⟩
theorem c_law11_Back (N : Nat) : C_law11_Back.Ok prog N := o_law11_Back.give tb_ok hm N N trivial fun a r s h => by
  have l0 := s.loop 0 q_law11_Back_0 (f_law11_Back_0 N) N fun next0 h0 => by
    exact fun c v => s.seg 0 q_law11_Back_0 [(0, .of q_law11_Back_0 next0)] ⟨h0, trivial⟩ (by kernel_rfl) (by kernel_rfl)
  exact s.main [(0, .of q_law11_Back_0 (r_law11_Back_0 N))] ⟨l0, trivial⟩ (.trans (by kernel_rfl) h)
noncomputable def F_ref11_Same : Fn C_ref11_Same := ⟨f12, [], ⟨[], [], sbf, bof⟩, [], [true], none, 0, 0⟩
theorem o_ref11_Same : F_ref11_Same.Ok prog := ⟨Is.of (by kernel_rfl) (by kernel_rfl), by kernel_rfl, hint_sb sb_ok bo_ok, trivial, trivial, fun _ => by kernel_rfl⟩
theorem c_ref11_Same (N : Nat) : C_ref11_Same.Ok prog N := o_ref11_Same.give tb_ok hm N N trivial fun a r s h => by
  have l0 := s.loop 0 q_ref11_Same_0 (f_ref11_Same_0 N) N fun next0 h0 => by
    exact fun c v => s.seg 0 q_ref11_Same_0 [(0, .of q_ref11_Same_0 next0)] ⟨h0, trivial⟩ (by kernel_rfl) (by kernel_rfl)
  exact s.main [(0, .of q_ref11_Same_0 (r_ref11_Same_0 N))] ⟨l0, trivial⟩ (.trans (by kernel_rfl) h)
noncomputable def F_law09_Told_n : Fn C_law09_Told_n := ⟨f14, [], ⟨[], [], sbf, bof⟩, [C_fault_Code_n, C_fault_At_n], [true], none, 0, 0⟩
theorem o_law09_Told_n : F_law09_Told_n.Ok prog := ⟨Is.of (by kernel_rfl) (by kernel_rfl), by kernel_rfl, hint_sb sb_ok bo_ok, trivial, trivial, fun _ => by kernel_rfl⟩
theorem c_law09_Told_n (N : Nat) : C_law09_Told_n.Ok prog N := o_law09_Told_n.give tb_ok hm N N ⟨c_fault_Code_n N, c_fault_At_n N, trivial⟩ fun a r s h => by
  exact s.main [] trivial (.trans (by kernel_rfl) h)
end
end
section
open Go.Proofs.Tryz
set_option maxRecDepth 1000000
noncomputable section
noncomputable def F_law09_Told_f : Fn C_law09_Told_f := ⟨f14, [], ⟨[], [], sbf, bof⟩, [C_fault_Code_f, C_fault_At_f], [true], none, 0, 0⟩
theorem o_law09_Told_f : F_law09_Told_f.Ok prog := ⟨Is.of (by kernel_rfl) (by kernel_rfl), by kernel_rfl, hint_sb sb_ok bo_ok, trivial, trivial, fun _ => by kernel_rfl⟩
theorem c_law09_Told_f (N : Nat) : C_law09_Told_f.Ok prog N := o_law09_Told_f.give tb_ok hm N N ⟨c_fault_Code_f N, c_fault_At_f N, trivial⟩ fun a r s h => by
  exact s.main [] trivial (.trans (by kernel_rfl) h)
noncomputable def F_law04_Small : Fn C_law04_Small := ⟨f24, [], ⟨[], [], sbf, bof⟩, [], [true], none, 0, 0⟩
theorem o_law04_Small : F_law04_Small.Ok prog := ⟨Is.of (by kernel_rfl) (by kernel_rfl), by kernel_rfl, hint_sb sb_ok bo_ok, trivial, trivial, fun _ => by kernel_rfl⟩
theorem c_law04_Small (N : Nat) : C_law04_Small.Ok prog N := o_law04_Small.give tb_ok hm N N trivial fun a r s h => by
  exact s.main [] trivial (.trans (by kernel_rfl) h)
noncomputable def F_law10_Over : Fn C_law10_Over := ⟨f7, [], ⟨[], [], sbf, bof⟩, [C_law04_Small], [true], none, 0, 0⟩
theorem o_law10_Over : F_law10_Over.Ok prog := ⟨Is.of (by kernel_rfl) (by kernel_rfl), by kernel_rfl, hint_sb sb_ok bo_ok, trivial, trivial, fun _ => by kernel_rfl⟩
theorem c_law10_Over (N : Nat) : C_law10_Over.Ok prog N := o_law10_Over.give tb_ok hm N N ⟨c_law04_Small N, trivial⟩ fun a r s h => by
  have l0 := s.loop 0 q_law10_Over_0 (f_law10_Over_0 N) N fun next0 h0 => by
    exact fun c v => s.seg 0 q_law10_Over_0 [(0, .of q_law10_Over_0 next0)] ⟨h0, trivial⟩ (by kernel_rfl) (by kernel_rfl)
  exact s.main [(0, .of q_law10_Over_0 (r_law10_Over_0 N))] ⟨l0, trivial⟩ (.trans (by kernel_rfl) h)
noncomputable def F_law10_Own : Fn C_law10_Own := ⟨f10, [], ⟨[(33, 0)], [], sbf, bof⟩, [], [true], none, 0, 0⟩
theorem o_law10_Own : F_law10_Own.Ok prog := ⟨Is.of (by kernel_rfl) (by kernel_rfl), by kernel_rfl, hint_sb sb_ok bo_ok, trivial, trivial, fun _ => by kernel_rfl⟩
theorem c_law10_Own (N : Nat) : C_law10_Own.Ok prog N := o_law10_Own.give tb_ok hm N N trivial fun a r s h => by
  have l0 := s.loop 0 q_law10_Own_0 (f_law10_Own_0 N) N fun next0 h0 => by
    exact fun c v => s.seg 0 q_law10_Own_0 [(0, .of q_law10_Own_0 next0)] ⟨h0, trivial⟩ (by kernel_rfl) (by kernel_rfl)
  exact s.main [(0, .of q_law10_Own_0 (r_law10_Own_0 N))] ⟨l0, trivial⟩ (.trans (by kernel_rfl) h)
noncomputable def F_law12_PredtextParses : Fn C_law12_PredtextParses := ⟨f3, [], ⟨[], [], sbf, bof⟩, [C_law10_Over, C_law12_awake, C_law10_Own, C_predtext_Parse, C_ref12_Parse, C_law11_Back, C_ref11_Same, C_law09_Told_n, C_law09_Told_f], [true], none, 0, 0⟩
theorem o_law12_PredtextParses : F_law12_PredtextParses.Ok prog := ⟨Is.of (by kernel_rfl) (by kernel_rfl), by kernel_rfl, hint_sb sb_ok bo_ok, trivial, trivial, fun _ => by kernel_rfl⟩
theorem c_law12_PredtextParses (N : Nat) : C_law12_PredtextParses.Ok prog N := o_law12_PredtextParses.give tb_ok hm N N ⟨c_law10_Over N, c_law12_awake N, c_law10_Own N, c_predtext_Parse N, c_ref12_Parse N, c_law11_Back N, c_ref11_Same N, c_law09_Told_n N, c_law09_Told_f N, trivial⟩ fun a r s h => by
  exact s.main [] trivial (.trans (by kernel_rfl) h)
noncomputable def F_law11_Over : Fn C_law11_Over := ⟨f17, [], ⟨[], [], sbf, bof⟩, [C_law04_Small], [true], none, 0, 0⟩
theorem o_law11_Over : F_law11_Over.Ok prog := ⟨Is.of (by kernel_rfl) (by kernel_rfl), by kernel_rfl, hint_sb sb_ok bo_ok, trivial, trivial, fun _ => by kernel_rfl⟩
theorem c_law11_Over (N : Nat) : C_law11_Over.Ok prog N := o_law11_Over.give tb_ok hm N N ⟨c_law04_Small N, trivial⟩ fun a r s h => by
  have l0 := s.loop 0 q_law11_Over_0 (f_law11_Over_0 N) N fun next0 h0 => by
    exact fun c v => s.seg 0 q_law11_Over_0 [(0, .of q_law11_Over_0 next0)] ⟨h0, trivial⟩ (by kernel_rfl) (by kernel_rfl)
  exact s.main [(0, .of q_law11_Over_0 (r_law11_Over_0 N))] ⟨l0, trivial⟩ (.trans (by kernel_rfl) h)
noncomputable def F_slices_Equal_pred_Node : Fn C_slices_Equal_pred_Node := ⟨f37, [], ⟨[], [], sbf, bof⟩, [], [true], none, 0, 0⟩
theorem o_slices_Equal_pred_Node : F_slices_Equal_pred_Node.Ok prog := ⟨Is.of (by kernel_rfl) (by kernel_rfl), by kernel_rfl, hint_sb sb_ok bo_ok, trivial, trivial, fun _ => by kernel_rfl⟩
theorem c_slices_Equal_pred_Node (N : Nat) : C_slices_Equal_pred_Node.Ok prog N := o_slices_Equal_pred_Node.give tb_ok hm N N trivial fun a r s h => by
  have l0 := s.loop 0 q_slices_Equal_pred_Node_0 (f_slices_Equal_pred_Node_0 N) N fun next0 h0 => by
    exact fun c v => s.seg 0 q_slices_Equal_pred_Node_0 [(0, .of q_slices_Equal_pred_Node_0 next0)] ⟨h0, trivial⟩ (by kernel_rfl) (by kernel_rfl)
  exact s.main [(0, .of q_slices_Equal_pred_Node_0 (r_slices_Equal_pred_Node_0 N))] ⟨l0, trivial⟩ (.trans (by kernel_rfl) h)
noncomputable def F_pred_Same : Fn C_pred_Same := ⟨f21, [], ⟨[], [], sbf, bof⟩, [C_slices_Equal_pred_Node], [true], none, 0, 0⟩
theorem o_pred_Same : F_pred_Same.Ok prog := ⟨Is.of (by kernel_rfl) (by kernel_rfl), by kernel_rfl, hint_sb sb_ok bo_ok, trivial, trivial, fun _ => by kernel_rfl⟩
theorem c_pred_Same (N : Nat) : C_pred_Same.Ok prog N := o_pred_Same.give tb_ok hm N N ⟨c_slices_Equal_pred_Node N, trivial⟩ fun a r s h => by
  exact s.main [] trivial (.trans (by kernel_rfl) h)
noncomputable def F_law11_Own : Fn C_law11_Own := ⟨f22, [], ⟨[(28, 3)], [], sbf, bof⟩, [], [true], none, 0, 0⟩
theorem o_law11_Own : F_law11_Own.Ok prog := ⟨Is.of (by kernel_rfl) (by kernel_rfl), by kernel_rfl, hint_sb sb_ok bo_ok, trivial, trivial, fun _ => by kernel_rfl⟩
theorem c_law11_Own (N : Nat) : C_law11_Own.Ok prog N := o_law11_Own.give tb_ok hm N N trivial fun a r s h => by
  have l0 := s.loop 0 q_law11_Own_0 (f_law11_Own_0 N) N fun next0 h0 => by
    exact fun c v => s.seg 0 q_law11_Own_0 [(0, .of q_law11_Own_0 next0)] ⟨h0, trivial⟩ (by kernel_rfl) (by kernel_rfl)
  exact s.main [(0, .of q_law11_Own_0 (r_law11_Own_0 N))] ⟨l0, trivial⟩ (.trans (by kernel_rfl) h)
noncomputable def F_law12_PredtextBack : Fn C_law12_PredtextBack := ⟨f5, [], ⟨[], [], sbf, bof⟩, [C_law11_Over, C_law12_awake, C_predtext_Read, C_pred_Check, C_pred_Print, C_pred_Same, C_law11_Own, C_fault_At_f], [true], none, 0, 0⟩
theorem o_law12_PredtextBack : F_law12_PredtextBack.Ok prog := ⟨Is.of (by kernel_rfl) (by kernel_rfl), by kernel_rfl, hint_sb sb_ok bo_ok, trivial, trivial, fun _ => by kernel_rfl⟩
theorem c_law12_PredtextBack (N : Nat) : C_law12_PredtextBack.Ok prog N := o_law12_PredtextBack.give tb_ok hm N N ⟨c_law11_Over N, c_law12_awake N, c_predtext_Read N, c_pred_Check N, c_pred_Print N, c_pred_Same N, c_law11_Own N, c_fault_At_f N, trivial⟩ fun a r s h => by
  exact s.main [] trivial (.trans (by kernel_rfl) h)
noncomputable def F_law12_PredtextBrackets : Fn C_law12_PredtextBrackets := ⟨f6, [], ⟨[], [], sbf, bof⟩, [C_law12_awake, C_predtext_Read, C_pred_Same, C_fault_Code_f], [true], none, 0, 0⟩
theorem o_law12_PredtextBrackets : F_law12_PredtextBrackets.Ok prog := ⟨Is.of (by kernel_rfl) (by kernel_rfl), by kernel_rfl, hint_sb sb_ok bo_ok, trivial, trivial, fun _ => by kernel_rfl⟩
theorem c_law12_PredtextBrackets (N : Nat) : C_law12_PredtextBrackets.Ok prog N := o_law12_PredtextBrackets.give tb_ok hm N N ⟨c_law12_awake N, c_predtext_Read N, c_pred_Same N, c_fault_Code_f N, trivial⟩ fun a r s h => by
  have l0 := s.loop 0 q_law12_PredtextBrackets_0 (f_law12_PredtextBrackets_0 N) N fun next0 h0 => by
    exact fun c v => s.seg 0 q_law12_PredtextBrackets_0 [(0, .of q_law12_PredtextBrackets_0 next0)] ⟨h0, trivial⟩ (by kernel_rfl) (by kernel_rfl)
  exact s.main [(0, .of q_law12_PredtextBrackets_0 (r_law12_PredtextBrackets_0 N))] ⟨l0, trivial⟩ (.trans (by kernel_rfl) h)
end
end
end Go.Proofs.YtfmibkkigkgecaaGreatDoor.V
