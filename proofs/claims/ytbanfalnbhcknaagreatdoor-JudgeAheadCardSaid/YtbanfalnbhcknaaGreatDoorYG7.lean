/- The code, and what each function of it is walked to. No premise beyond what each theorem says. -/
import Derived.Test.YtbanfalnbhcknaaGreatDoorYG6
set_option linter.all false
set_option linter.unusedSimpArgs false
set_option linter.unusedVariables false
namespace Go.Proofs.YtbanfalnbhcknaaGreatDoor.Y
open Go
section
open Go.Proofs.Tryz
set_option maxRecDepth 1000000
noncomputable section
noncomputable def F_pred_Node_lacks : Fn C_pred_Node_lacks := ⟨f40, [], ⟨[], [], sbf, bof⟩, fun _ => [C_compare_Sign, C_schema_Name, C_value_Check], [true], none, 0, 0, fun _ _ => true, none, [], []⟩
theorem o_pred_Node_lacks : F_pred_Node_lacks.Ok prog := ⟨Is.of (by kernel_rfl) (by kernel_rfl), by kernel_rfl, hint_sb sb_ok bo_ok, trivial, trivial, fun _ => by kernel_rfl⟩
theorem c_pred_Node_lacks (N : Nat) : C_pred_Node_lacks.Ok prog N := o_pred_Node_lacks.give tb_ok hm N N (fun _ => ⟨c_compare_Sign N, c_schema_Name N, c_value_Check N, trivial⟩) fun a r s h => by
  exact s.main [] trivial (.trans (by kernel_rfl) h)
noncomputable def F_pred_is_v782 : Fn C_pred_is_v782 := ⟨f39, [], ⟨[], [], sbf, bof⟩, fun _ => [C_pred_Node_lacks], [true], none, 0, 0, fun _ _ => true, none, [], []⟩
theorem o_pred_is_v782 : F_pred_is_v782.Ok prog := ⟨Is.of (by kernel_rfl) (by kernel_rfl), by kernel_rfl, hint_sb sb_ok bo_ok, trivial, trivial, fun _ => by kernel_rfl⟩
theorem c_pred_is_v782 (N : Nat) : C_pred_is_v782.Ok prog N := o_pred_is_v782.give tb_ok hm N N (fun _ => ⟨c_pred_Node_lacks N, trivial⟩) fun a r s h => by
  exact s.main [] trivial (.trans (by kernel_rfl) h)
noncomputable def F_pred_is_v272 : Fn C_pred_is_v272 := ⟨f39, [], ⟨[], [], sbf, bof⟩, fun _ => [C_pred_Node_more], [true], none, 0, 0, fun _ _ => true, none, [], []⟩
theorem o_pred_is_v272 : F_pred_is_v272.Ok prog := ⟨Is.of (by kernel_rfl) (by kernel_rfl), by kernel_rfl, hint_sb sb_ok bo_ok, trivial, trivial, fun _ => by kernel_rfl⟩
theorem c_pred_is_v272 (N : Nat) : C_pred_is_v272.Ok prog N := o_pred_is_v272.give tb_ok hm N N (fun _ => ⟨c_pred_Node_more N, trivial⟩) fun a r s h => by
  exact s.main [] trivial (.trans (by kernel_rfl) h)
noncomputable def F_pred_Kids : Fn C_pred_Kids := ⟨f42, [], ⟨[], [], sbf, bof⟩, fun _ => [], [true], none, 0, 0, fun _ _ => true, none, [], []⟩
theorem o_pred_Kids : F_pred_Kids.Ok prog := ⟨Is.of (by kernel_rfl) (by kernel_rfl), by kernel_rfl, hint_sb sb_ok bo_ok, trivial, trivial, fun _ => by kernel_rfl⟩
theorem c_pred_Kids (N : Nat) : C_pred_Kids.Ok prog N := o_pred_Kids.give tb_ok hm N N (fun _ => trivial) fun a r s h => by
  exact s.main [] trivial (.trans (by kernel_rfl) h)
noncomputable def F_pred_Node_kid : Fn C_pred_Node_kid := ⟨f43, [], ⟨[], [], sbf, bof⟩, fun _ => [], [true], none, 0, 0, fun _ _ => true, none, [], []⟩
theorem o_pred_Node_kid : F_pred_Node_kid.Ok prog := ⟨Is.of (by kernel_rfl) (by kernel_rfl), by kernel_rfl, hint_sb sb_ok bo_ok, trivial, trivial, fun _ => by kernel_rfl⟩
theorem c_pred_Node_kid (N : Nat) : C_pred_Node_kid.Ok prog N := o_pred_Node_kid.give tb_ok hm N N (fun _ => trivial) fun a r s h => by
  exact s.main [] trivial (.trans (by kernel_rfl) h)
noncomputable def F_pred_checker_tree_v739 : Fn C_pred_checker_tree_v739 := ⟨f27, [], ⟨[], [], sbf, bof⟩, fun _ => [C_pred_Node_stands, C_pred_is_v782, C_pred_is_v272, C_pred_Kids, C_pred_Node_kid, C_pred_checker_tree_v739], [true], none, 1, 0, fun _ _ => true, none, [], []⟩
theorem o_pred_checker_tree_v739 : F_pred_checker_tree_v739.Ok prog := ⟨Is.of (by kernel_rfl) (by kernel_rfl), by kernel_rfl, hint_sb sb_ok bo_ok, trivial, trivial, fun _ => by kernel_rfl⟩
theorem cs_pred_checker_tree_v739 : ∀ N, C_pred_checker_tree_v739.Ok prog N
  | 0 => ⟨o_pred_checker_tree_v739.is.enters, fun a r h => by (have h : none = some r := h; cases h)⟩
  | N + 1 => by
    obtain h_pred_checker_tree_v739 := cs_pred_checker_tree_v739 N
    · exact o_pred_checker_tree_v739.give tb_ok hm N (N + 1) (fun _ => ⟨c_pred_Node_stands N, c_pred_is_v782 N, c_pred_is_v272 N, c_pred_Kids N, c_pred_Node_kid N, h_pred_checker_tree_v739, trivial⟩) fun a r s h => by
        have l0 := s.loop 0 q_pred_checker_tree_v739_0 (f_pred_checker_tree_v739_0 N) N fun next0 h0 => by
          exact fun c v => s.seg 0 q_pred_checker_tree_v739_0 [(0, .of q_pred_checker_tree_v739_0 next0)] ⟨h0, trivial⟩ (by kernel_rfl) (by kernel_rfl)
        exact s.main [(0, .of q_pred_checker_tree_v739_0 (r_pred_checker_tree_v739_0 N))] ⟨l0, trivial⟩ (.trans (by kernel_rfl) h)
theorem c_pred_checker_tree_v739 (N : Nat) : C_pred_checker_tree_v739.Ok prog N := (cs_pred_checker_tree_v739 N)
noncomputable def F_pred_Check : Fn C_pred_Check := ⟨f13, [], ⟨[], [], sbf, bof⟩, fun _ => [C_pred_checker_tree_v739], [true], none, 0, 0, fun _ _ => true, none, [], []⟩
theorem o_pred_Check : F_pred_Check.Ok prog := ⟨Is.of (by kernel_rfl) (by kernel_rfl), by kernel_rfl, hint_sb sb_ok bo_ok, trivial, trivial, fun _ => by kernel_rfl⟩
theorem c_pred_Check (N : Nat) : C_pred_Check.Ok prog N := o_pred_Check.give tb_ok hm N N (fun _ => ⟨c_pred_checker_tree_v739 N, trivial⟩) fun a r s h => by
  exact s.main [] trivial (.trans (by kernel_rfl) h)
end
end
end Go.Proofs.YtbanfalnbhcknaaGreatDoor.Y
