/- The code, and what each function of it is walked to. No premise beyond what each theorem says. -/
import Derived.Test.YtbioikdfpfafaaaGreatDoorWG7
set_option linter.all false
set_option linter.unusedSimpArgs false
set_option linter.unusedVariables false
namespace Go.Proofs.YtbioikdfpfafaaaGreatDoor.W
open Go
section
open Go.Proofs.Tryz
set_option maxRecDepth 1000000
noncomputable section
noncomputable def F_law11_Own : Fn C_law11_Own := ⟨f23, [], ⟨[(28, 4)], [], sbf, bof⟩, fun _ => [], [true], none, 0, 0, fun _ _ => true, none, [], []⟩
theorem o_law11_Own : F_law11_Own.Ok prog := ⟨Is.of (by kernel_rfl) (by kernel_rfl), by kernel_rfl, hint_sb sb_ok bo_ok, trivial, trivial, fun _ => by kernel_rfl⟩
theorem c_law11_Own (N : Nat) : C_law11_Own.Ok prog N := o_law11_Own.give tb_ok hm N N (fun _ => trivial) fun a r s h => by
  have l0 := s.loop 0 q_law11_Own_0 (f_law11_Own_0 N) N fun next0 h0 => by
    exact fun c v => s.seg 0 q_law11_Own_0 [(0, .of q_law11_Own_0 next0)] ⟨h0, trivial⟩ (by kernel_rfl) (by kernel_rfl)
  exact s.main [(0, .of q_law11_Own_0 (r_law11_Own_0 N))] ⟨l0, trivial⟩ (.trans (by kernel_rfl) h)
noncomputable def F_law13_Own : Fn C_law13_Own := ⟨f10, [], ⟨[(43, 5)], [], sbf, bof⟩, fun _ => [C_law11_Own], [true], none, 0, 0, fun _ _ => true, none, [], []⟩
theorem o_law13_Own : F_law13_Own.Ok prog := ⟨Is.of (by kernel_rfl) (by kernel_rfl), by kernel_rfl, hint_sb sb_ok bo_ok, trivial, trivial, fun _ => by kernel_rfl⟩
theorem c_law13_Own (N : Nat) : C_law13_Own.Ok prog N := o_law13_Own.give tb_ok hm N N (fun _ => ⟨c_law11_Own N, trivial⟩) fun a r s h => by
  have l0 := s.loop 0 q_law13_Own_0 (f_law13_Own_0 N) N fun next0 h0 => by
    exact fun c v => s.seg 0 q_law13_Own_0 [(0, .of q_law13_Own_0 next0)] ⟨h0, trivial⟩ (by kernel_rfl) (by kernel_rfl)
  exact s.main [(0, .of q_law13_Own_0 (r_law13_Own_0 N))] ⟨l0, trivial⟩ (.trans (by kernel_rfl) h)
noncomputable def F_shape_Node_list : Fn C_shape_Node_list := ⟨f139, [], ⟨[], [], sbf, bof⟩, fun _ => [], [true], none, 0, 0, fun _ _ => true, none, [], []⟩
theorem o_shape_Node_list : F_shape_Node_list.Ok prog := ⟨Is.of (by kernel_rfl) (by kernel_rfl), by kernel_rfl, hint_sb sb_ok bo_ok, trivial, trivial, fun _ => by kernel_rfl⟩
theorem c_shape_Node_list (N : Nat) : C_shape_Node_list.Ok prog N := o_shape_Node_list.give tb_ok hm N N (fun _ => trivial) fun a r s h => by
  exact s.main [] trivial (.trans (by kernel_rfl) h)
noncomputable def F_shape_Node_stands : Fn C_shape_Node_stands := ⟨f92, [], ⟨[], [], sbf, bof⟩, fun _ => [C_shape_Node_list], [true], none, 0, 0, fun _ _ => true, none, [], []⟩
theorem o_shape_Node_stands : F_shape_Node_stands.Ok prog := ⟨Is.of (by kernel_rfl) (by kernel_rfl), by kernel_rfl, hint_sb sb_ok bo_ok, trivial, trivial, fun _ => by kernel_rfl⟩
theorem c_shape_Node_stands (N : Nat) : C_shape_Node_stands.Ok prog N := o_shape_Node_stands.give tb_ok hm N N (fun _ => ⟨c_shape_Node_list N, trivial⟩) fun a r s h => by
  exact s.main [] trivial (.trans (by kernel_rfl) h)
noncomputable def F_shape_Node_often : Fn C_shape_Node_often := ⟨f140, [], ⟨[], [], sbf, bof⟩, fun _ => [], [true], none, 0, 0, fun _ _ => true, none, [], []⟩
theorem o_shape_Node_often : F_shape_Node_often.Ok prog := ⟨Is.of (by kernel_rfl) (by kernel_rfl), by kernel_rfl, hint_sb sb_ok bo_ok, trivial, trivial, fun _ => by kernel_rfl⟩
theorem c_shape_Node_often (N : Nat) : C_shape_Node_often.Ok prog N := o_shape_Node_often.give tb_ok hm N N (fun _ => trivial) fun a r s h => by
  exact s.main [] trivial (.trans (by kernel_rfl) h)
noncomputable def F_shape_Node_lacks : Fn C_shape_Node_lacks := ⟨f93, [], ⟨[], [], sbf, bof⟩, fun _ => [C_shape_Node_list, C_shape_Node_often, C_schema_Name, C_pred_Check], [true], none, 0, 0, fun _ _ => true, none, [], []⟩
theorem o_shape_Node_lacks : F_shape_Node_lacks.Ok prog := ⟨Is.of (by kernel_rfl) (by kernel_rfl), by kernel_rfl, hint_sb sb_ok bo_ok, trivial, trivial, fun _ => by kernel_rfl⟩
theorem c_shape_Node_lacks (N : Nat) : C_shape_Node_lacks.Ok prog N := o_shape_Node_lacks.give tb_ok hm N N (fun _ => ⟨c_shape_Node_list N, c_shape_Node_often N, c_schema_Name N, c_pred_Check N, trivial⟩) fun a r s h => by
  exact s.main [] trivial (.trans (by kernel_rfl) h)
noncomputable def F_shape_Node_leaf : Fn C_shape_Node_leaf := ⟨f142, [], ⟨[], [], sbf, bof⟩, fun _ => [], [true], none, 0, 0, fun _ _ => true, none, [], []⟩
theorem o_shape_Node_leaf : F_shape_Node_leaf.Ok prog := ⟨Is.of (by kernel_rfl) (by kernel_rfl), by kernel_rfl, hint_sb sb_ok bo_ok, trivial, trivial, fun _ => by kernel_rfl⟩
theorem c_shape_Node_leaf (N : Nat) : C_shape_Node_leaf.Ok prog N := o_shape_Node_leaf.give tb_ok hm N N (fun _ => trivial) fun a r s h => by
  exact s.main [] trivial (.trans (by kernel_rfl) h)
noncomputable def F_shape_Node_more : Fn C_shape_Node_more := ⟨f94, [], ⟨[], [], sbf, bof⟩, fun _ => [C_shape_Node_leaf], [true], none, 0, 0, fun _ _ => true, none, [], []⟩
theorem o_shape_Node_more : F_shape_Node_more.Ok prog := ⟨Is.of (by kernel_rfl) (by kernel_rfl), by kernel_rfl, hint_sb sb_ok bo_ok, trivial, trivial, fun _ => by kernel_rfl⟩
theorem c_shape_Node_more (N : Nat) : C_shape_Node_more.Ok prog N := o_shape_Node_more.give tb_ok hm N N (fun _ => ⟨c_shape_Node_leaf N, trivial⟩) fun a r s h => by
  exact s.main [] trivial (.trans (by kernel_rfl) h)
noncomputable def F_shape_Node_kids : Fn C_shape_Node_kids := ⟨f95, [], ⟨[], [], sbf, bof⟩, fun _ => [C_shape_Node_list], [true], none, 0, 0, fun _ _ => true, none, [], []⟩
theorem o_shape_Node_kids : F_shape_Node_kids.Ok prog := ⟨Is.of (by kernel_rfl) (by kernel_rfl), by kernel_rfl, hint_sb sb_ok bo_ok, trivial, trivial, fun _ => by kernel_rfl⟩
theorem c_shape_Node_kids (N : Nat) : C_shape_Node_kids.Ok prog N := o_shape_Node_kids.give tb_ok hm N N (fun _ => ⟨c_shape_Node_list N, trivial⟩) fun a r s h => by
  exact s.main [] trivial (.trans (by kernel_rfl) h)
noncomputable def F_shape_tree : Fn C_shape_tree := ⟨f48, [], ⟨[], [], sbf, bof⟩, fun _ => [C_shape_Node_stands, C_shape_Node_lacks, C_shape_Node_more, C_shape_Node_kids, C_shape_tree], [true, true], none, 0, 0, fun _ _ => true, none, [], []⟩
theorem o_shape_tree : F_shape_tree.Ok prog := ⟨Is.of (by kernel_rfl) (by kernel_rfl), by kernel_rfl, hint_sb sb_ok bo_ok, trivial, trivial, fun _ => by kernel_rfl⟩
theorem cs_shape_tree : ∀ N, C_shape_tree.Ok prog N
  | 0 => ⟨o_shape_tree.is.enters, fun a r h => by (have h : none = some r := h; cases h)⟩
  | N + 1 => by
    obtain h_shape_tree := cs_shape_tree N
    · exact o_shape_tree.give tb_ok hm N (N + 1) (fun _ => ⟨c_shape_Node_stands N, c_shape_Node_lacks N, c_shape_Node_more N, c_shape_Node_kids N, h_shape_tree, trivial⟩) fun a r s h => by
        have l1 := s.loop 1 q_shape_tree_1 (f_shape_tree_1 N) N fun next1 h1 => by
          exact fun c v => s.seg 1 q_shape_tree_1 [(1, .of q_shape_tree_1 next1)] ⟨h1, trivial⟩ (by kernel_rfl) (by kernel_rfl)
        exact s.main [(1, .of q_shape_tree_1 (r_shape_tree_1 N))] ⟨l1, trivial⟩ (.trans (by kernel_rfl) h)
theorem c_shape_tree (N : Nat) : C_shape_tree.Ok prog N := (cs_shape_tree N)
noncomputable def F_shape_Word : Fn C_shape_Word := ⟨f50, [], ⟨[], [], sbf, bof⟩, fun _ => [], [true], none, 0, 0, fun _ _ => true, none, [], []⟩
theorem o_shape_Word : F_shape_Word.Ok prog := ⟨Is.of (by kernel_rfl) (by kernel_rfl), by kernel_rfl, hint_sb sb_ok bo_ok, trivial, trivial, fun _ => by kernel_rfl⟩
theorem c_shape_Word (N : Nat) : C_shape_Word.Ok prog N := o_shape_Word.give tb_ok hm N N (fun _ => trivial) fun a r s h => by
  exact s.main [] trivial (.trans (by kernel_rfl) h)
noncomputable def F_shape_Check : Fn C_shape_Check := ⟨f24, [], ⟨[], [], sbf, bof⟩, fun _ => [C_shape_tree, C_schema_Name, C_shape_Word], [true], none, 0, 0, fun _ _ => true, none, [], []⟩
theorem o_shape_Check : F_shape_Check.Ok prog := ⟨Is.of (by kernel_rfl) (by kernel_rfl), by kernel_rfl, hint_sb sb_ok bo_ok, trivial, trivial, fun _ => by kernel_rfl⟩
theorem c_shape_Check (N : Nat) : C_shape_Check.Ok prog N := o_shape_Check.give tb_ok hm N N (fun _ => ⟨c_shape_tree N, c_schema_Name N, c_shape_Word N, trivial⟩) fun a r s h => by
  exact s.main [] trivial (.trans (by kernel_rfl) h)
noncomputable def F_scope_leaf : Fn C_scope_leaf := ⟨f28, [], ⟨[], [], sbf, bof⟩, fun _ => [], [true], none, 0, 0, fun _ _ => true, none, [], []⟩
theorem o_scope_leaf : F_scope_leaf.Ok prog := ⟨Is.of (by kernel_rfl) (by kernel_rfl), by kernel_rfl, hint_sb sb_ok bo_ok, trivial, trivial, fun _ => by kernel_rfl⟩
theorem c_scope_leaf (N : Nat) : C_scope_leaf.Ok prog N := o_scope_leaf.give tb_ok hm N N (fun _ => trivial) fun a r s h => by
  exact s.main [] trivial (.trans (by kernel_rfl) h)
noncomputable def F_scope_walker_choice_v240 : Fn C_scope_walker_choice_v240 := ⟨f77, [], ⟨[], [], sbf, bof⟩, fun _ => [], [true], none, 1, 0, fun _ _ => true, none, [], []⟩
theorem o_scope_walker_choice_v240 : F_scope_walker_choice_v240.Ok prog := ⟨Is.of (by kernel_rfl) (by kernel_rfl), by kernel_rfl, hint_sb sb_ok bo_ok, trivial, trivial, fun _ => by kernel_rfl⟩
theorem c_scope_walker_choice_v240 (N : Nat) : C_scope_walker_choice_v240.Ok prog N := o_scope_walker_choice_v240.give tb_ok hm N N (fun _ => trivial) fun a r s h => by
  exact s.main [] trivial (.trans (by kernel_rfl) h)
noncomputable def F_shape_Size : Fn C_shape_Size := ⟨f78, [], ⟨[], [], sbf, bof⟩, fun _ => [C_shape_Node_kids], [true], none, 0, 0, fun _ _ => true, none, [], []⟩
theorem o_shape_Size : F_shape_Size.Ok prog := ⟨Is.of (by kernel_rfl) (by kernel_rfl), by kernel_rfl, hint_sb sb_ok bo_ok, trivial, trivial, fun _ => by kernel_rfl⟩
theorem c_shape_Size (N : Nat) : C_shape_Size.Ok prog N := o_shape_Size.give tb_ok hm N N (fun _ => ⟨c_shape_Node_kids N, trivial⟩) fun a r s h => by
  have l0 := s.loop 0 q_shape_Size_0 (f_shape_Size_0 N) N fun next0 h0 => by
    exact fun c v => s.seg 0 q_shape_Size_0 [(0, .of q_shape_Size_0 next0)] ⟨h0, trivial⟩ (by kernel_rfl) (by kernel_rfl)
  exact s.main [(0, .of q_shape_Size_0 (r_shape_Size_0 N))] ⟨l0, trivial⟩ (.trans (by kernel_rfl) h)
noncomputable def F_scope_walker_choice_v758 : Fn C_scope_walker_choice_v758 := ⟨f77, [], ⟨[], [], sbf, bof⟩, fun _ => [], [true], none, 1, 1, fun _ _ => true, none, [], []⟩
theorem o_scope_walker_choice_v758 : F_scope_walker_choice_v758.Ok prog := ⟨Is.of (by kernel_rfl) (by kernel_rfl), by kernel_rfl, hint_sb sb_ok bo_ok, trivial, trivial, fun _ => by kernel_rfl⟩
theorem c_scope_walker_choice_v758 (N : Nat) : C_scope_walker_choice_v758.Ok prog N := o_scope_walker_choice_v758.give tb_ok hm N N (fun _ => trivial) fun a r s h => by
  exact s.main [] trivial (.trans (by kernel_rfl) h)
end
end
section
open Go.Proofs.Tryz
set_option maxRecDepth 1000000
noncomputable section
noncomputable def F_scope_walker_tree_v950 : Fn C_scope_walker_tree_v950 := ⟨f41, [], ⟨[(57, 0)], [], sbf, bof⟩, fun _ => [C_scope_leaf, C_scope_walker_choice_v758, C_shape_Size, C_scope_walker_tree_v950], [], none, 1, 1, fun _ _ => true, some EqR.cls, [], []⟩
theorem o_scope_walker_tree_v950 : F_scope_walker_tree_v950.Ok prog := ⟨Is.of (by kernel_rfl) (by kernel_rfl), by kernel_rfl, hint_sb sb_ok bo_ok, trivial, trivial, fun _ => by kernel_rfl⟩
theorem cs_scope_walker_tree_v950 : ∀ N, C_scope_walker_tree_v950.Ok prog N
  | 0 => ⟨o_scope_walker_tree_v950.is.enters, fun a r h => by (have h : none = some r := h; cases h)⟩
  | N + 1 => by
    obtain h_scope_walker_tree_v950 := cs_scope_walker_tree_v950 N
    · exact o_scope_walker_tree_v950.give tb_ok hm N (N + 1) (fun _ => ⟨c_scope_leaf N, c_scope_walker_choice_v758 N, c_shape_Size N, h_scope_walker_tree_v950, trivial⟩) fun a r s h => by
        have l3 := s.loop 3 q_scope_walker_tree_v950_3 (f_scope_walker_tree_v950_3 N) N fun next3 h3 => by
          exact fun c v => s.seg 3 q_scope_walker_tree_v950_3 [(3, .of q_scope_walker_tree_v950_3 next3)] ⟨h3, trivial⟩ (by kernel_rfl) (by kernel_rfl)
        have l5 := s.loop 5 q_scope_walker_tree_v950_5 (f_scope_walker_tree_v950_5 N) N fun next5 h5 => by
          exact fun c v => s.seg 5 q_scope_walker_tree_v950_5 [(5, .of q_scope_walker_tree_v950_5 next5)] ⟨h5, trivial⟩ (by kernel_rfl) (by kernel_rfl)
        have l1 := s.loop 1 q_scope_walker_tree_v950_1 (f_scope_walker_tree_v950_1 N) N fun next1 h1 => by
          exact fun c v => s.seg 1 q_scope_walker_tree_v950_1 [(1, .of q_scope_walker_tree_v950_1 next1)] ⟨h1, trivial⟩ (by kernel_rfl) (by kernel_rfl)
        exact s.main [(3, .of q_scope_walker_tree_v950_3 (r_scope_walker_tree_v950_3 N)), (5, .of q_scope_walker_tree_v950_5 (r_scope_walker_tree_v950_5 N)), (1, .of q_scope_walker_tree_v950_1 (r_scope_walker_tree_v950_1 N))] ⟨l3, l5, l1, trivial⟩ (.trans (by kernel_rfl) h)
theorem c_scope_walker_tree_v950 (N : Nat) : C_scope_walker_tree_v950.Ok prog N := (cs_scope_walker_tree_v950 N)
noncomputable def F_scope_walker_tree_v577 : Fn C_scope_walker_tree_v577 := ⟨f41, [], ⟨[(57, 0)], [], sbf, bof⟩, fun _ => [C_scope_leaf, C_scope_walker_choice_v240, C_shape_Size, C_scope_walker_tree_v577, C_scope_walker_tree_v950], [], none, 1, 0, fun _ _ => true, some EqR.cls, [], []⟩
theorem o_scope_walker_tree_v577 : F_scope_walker_tree_v577.Ok prog := ⟨Is.of (by kernel_rfl) (by kernel_rfl), by kernel_rfl, hint_sb sb_ok bo_ok, trivial, trivial, fun _ => by kernel_rfl⟩
theorem cs_scope_walker_tree_v577 : ∀ N, C_scope_walker_tree_v577.Ok prog N
  | 0 => ⟨o_scope_walker_tree_v577.is.enters, fun a r h => by (have h : none = some r := h; cases h)⟩
  | N + 1 => by
    obtain h_scope_walker_tree_v577 := cs_scope_walker_tree_v577 N
    · exact o_scope_walker_tree_v577.give tb_ok hm N (N + 1) (fun _ => ⟨c_scope_leaf N, c_scope_walker_choice_v240 N, c_shape_Size N, h_scope_walker_tree_v577, c_scope_walker_tree_v950 N, trivial⟩) fun a r s h => by
        have l3 := s.loop 3 q_scope_walker_tree_v577_3 (f_scope_walker_tree_v577_3 N) N fun next3 h3 => by
          exact fun c v => s.seg 3 q_scope_walker_tree_v577_3 [(3, .of q_scope_walker_tree_v577_3 next3)] ⟨h3, trivial⟩ (by kernel_rfl) (by kernel_rfl)
        have l5 := s.loop 5 q_scope_walker_tree_v577_5 (f_scope_walker_tree_v577_5 N) N fun next5 h5 => by
          exact fun c v => s.seg 5 q_scope_walker_tree_v577_5 [(5, .of q_scope_walker_tree_v577_5 next5)] ⟨h5, trivial⟩ (by kernel_rfl) (by kernel_rfl)
        have l1 := s.loop 1 q_scope_walker_tree_v577_1 (f_scope_walker_tree_v577_1 N) N fun next1 h1 => by
          exact fun c v => s.seg 1 q_scope_walker_tree_v577_1 [(1, .of q_scope_walker_tree_v577_1 next1)] ⟨h1, trivial⟩ (by kernel_rfl) (by kernel_rfl)
        exact s.main [(3, .of q_scope_walker_tree_v577_3 (r_scope_walker_tree_v577_3 N)), (5, .of q_scope_walker_tree_v577_5 (r_scope_walker_tree_v577_5 N)), (1, .of q_scope_walker_tree_v577_1 (r_scope_walker_tree_v577_1 N))] ⟨l3, l5, l1, trivial⟩ (.trans (by kernel_rfl) h)
theorem c_scope_walker_tree_v577 (N : Nat) : C_scope_walker_tree_v577.Ok prog N := (cs_scope_walker_tree_v577 N)
noncomputable def F_scope_Walk : Fn C_scope_Walk := ⟨f18, [], ⟨[], [], sbf, bof⟩, fun _ => [C_shape_Check, C_scope_walker_tree_v577], [true], none, 0, 0, fun _ _ => true, none, [], []⟩
theorem o_scope_Walk : F_scope_Walk.Ok prog := ⟨Is.of (by kernel_rfl) (by kernel_rfl), by kernel_rfl, hint_sb sb_ok bo_ok, trivial, trivial, fun _ => by kernel_rfl⟩
theorem c_scope_Walk (N : Nat) : C_scope_Walk.Ok prog N := o_scope_Walk.give tb_ok hm N N (fun _ => ⟨c_shape_Check N, c_scope_walker_tree_v577 N, trivial⟩) fun a r s h => by
  exact s.main [] trivial (.trans (by kernel_rfl) h)
noncomputable def F_scope_id_L1_v579 : Fn C_scope_id_L1_v579 := ⟨f143, [], ⟨[], [], sbf, bof⟩, fun _ => [], [true], none, 1, 0, fun _ _ => true, none, [], []⟩
theorem o_scope_id_L1_v579 : F_scope_id_L1_v579.Ok prog := ⟨Is.of (by kernel_rfl) (by kernel_rfl), by kernel_rfl, hint_sb sb_ok bo_ok, trivial, trivial, fun _ => by kernel_rfl⟩
theorem c_scope_id_L1_v579 (N : Nat) : C_scope_id_L1_v579.Ok prog N := o_scope_id_L1_v579.give tb_ok hm N N (fun _ => trivial) fun a r s h => by
  exact s.main [] trivial (.trans (by kernel_rfl) h)
noncomputable def F_slices_IndexFunc_shape_Node_v289 : Fn C_slices_IndexFunc_shape_Node_v289 := ⟨f27, [], ⟨[], [], sbf, bof⟩, fun _ => [C_scope_id_L1_v579], [true], none, 1, 0, fun _ _ => true, none, [], []⟩
theorem o_slices_IndexFunc_shape_Node_v289 : F_slices_IndexFunc_shape_Node_v289.Ok prog := ⟨Is.of (by kernel_rfl) (by kernel_rfl), by kernel_rfl, hint_sb sb_ok bo_ok, trivial, trivial, fun _ => by kernel_rfl⟩
theorem c_slices_IndexFunc_shape_Node_v289 (N : Nat) : C_slices_IndexFunc_shape_Node_v289.Ok prog N := o_slices_IndexFunc_shape_Node_v289.give tb_ok hm N N (fun _ => ⟨c_scope_id_L1_v579 N, trivial⟩) fun a r s h => by
  have l0 := s.loop 0 q_slices_IndexFunc_shape_Node_v289_0 (f_slices_IndexFunc_shape_Node_v289_0 N) N fun next0 h0 => by
    exact fun c v => s.seg 0 q_slices_IndexFunc_shape_Node_v289_0 [(0, .of q_slices_IndexFunc_shape_Node_v289_0 next0)] ⟨h0, trivial⟩ (by kernel_rfl) (by kernel_rfl)
  exact s.main [(0, .of q_slices_IndexFunc_shape_Node_v289_0 (r_slices_IndexFunc_shape_Node_v289_0 N))] ⟨l0, trivial⟩ (.trans (by kernel_rfl) h)
noncomputable def F_scope_id : Fn C_scope_id := ⟨f101, [], ⟨[], [], sbf, bof⟩, fun _ => [C_slices_IndexFunc_shape_Node_v289], [true], none, 0, 0, fun _ _ => true, none, [], []⟩
theorem o_scope_id : F_scope_id.Ok prog := ⟨Is.of (by kernel_rfl) (by kernel_rfl), by kernel_rfl, hint_sb sb_ok bo_ok, trivial, trivial, fun _ => by kernel_rfl⟩
theorem c_scope_id (N : Nat) : C_scope_id.Ok prog N := o_scope_id.give tb_ok hm N N (fun _ => ⟨c_slices_IndexFunc_shape_Node_v289 N, trivial⟩) fun a r s h => by
  exact s.main [] trivial (.trans (by kernel_rfl) h)
noncomputable def F_scope_kids : Fn C_scope_kids := ⟨f58, [], ⟨[], [], sbf, bof⟩, fun _ => [], [true], none, 0, 0, fun _ _ => true, none, [], []⟩
theorem o_scope_kids : F_scope_kids.Ok prog := ⟨Is.of (by kernel_rfl) (by kernel_rfl), by kernel_rfl, hint_sb sb_ok bo_ok, trivial, trivial, fun _ => by kernel_rfl⟩
theorem c_scope_kids (N : Nat) : C_scope_kids.Ok prog N := o_scope_kids.give tb_ok hm N N (fun _ => trivial) fun a r s h => by
  exact s.main [] trivial (.trans (by kernel_rfl) h)
noncomputable def F_scope_set_both : Fn C_scope_set_both := ⟨f102, [], ⟨[(2000011, 11), (2000015, 11), (2000018, 11)], [], sbf, bof⟩, fun _ => [], [true], none, 0, 0, fun _ _ => true, none, [], []⟩
theorem o_scope_set_both : F_scope_set_both.Ok prog := ⟨Is.of (by kernel_rfl) (by kernel_rfl), by kernel_rfl, hint_sb sb_ok bo_ok, trivial, trivial, fun _ => by kernel_rfl⟩
theorem c_scope_set_both (N : Nat) : C_scope_set_both.Ok prog N := o_scope_set_both.give tb_ok hm N N (fun _ => trivial) fun a r s h => by
  have l0 := s.loop 0 q_scope_set_both_0 (f_scope_set_both_0 N) N fun next0 h0 => by
    exact fun c v => s.seg 0 q_scope_set_both_0 [(0, .of q_scope_set_both_0 next0)] ⟨h0, trivial⟩ (by kernel_rfl) (by kernel_rfl)
  exact s.main [(0, .of q_scope_set_both_0 (r_scope_set_both_0 N))] ⟨l0, trivial⟩ (.trans (by kernel_rfl) h)
noncomputable def F_scope_flow_tree_v461 : Fn C_scope_flow_tree_v461 := ⟨f53, [], ⟨[(2000029, 10), (2000040, 11)], [], sbf, bof⟩, fun _ => [C_scope_leaf, C_scope_id, C_scope_kids, C_scope_flow_tree_v461, C_scope_set_both], [true, true], none, 1, 0, fun _ _ => true, none, [], []⟩
theorem o_scope_flow_tree_v461 : F_scope_flow_tree_v461.Ok prog := ⟨Is.of (by kernel_rfl) (by kernel_rfl), by kernel_rfl, hint_sb sb_ok bo_ok, trivial, trivial, fun _ => by kernel_rfl⟩
theorem cs_scope_flow_tree_v461 : ∀ N, C_scope_flow_tree_v461.Ok prog N
  | 0 => ⟨o_scope_flow_tree_v461.is.enters, fun a r h => by (have h : none = some r := h; cases h)⟩
  | N + 1 => by
    obtain h_scope_flow_tree_v461 := cs_scope_flow_tree_v461 N
    · exact o_scope_flow_tree_v461.give tb_ok hm N (N + 1) (fun _ => ⟨c_scope_leaf N, c_scope_id N, c_scope_kids N, h_scope_flow_tree_v461, c_scope_set_both N, trivial⟩) fun a r s h => by
        have l0 := s.loop 0 q_scope_flow_tree_v461_0 (f_scope_flow_tree_v461_0 N) N fun next0 h0 => by
          exact fun c v => s.seg 0 q_scope_flow_tree_v461_0 [(0, .of q_scope_flow_tree_v461_0 next0)] ⟨h0, trivial⟩ (by kernel_rfl) (by kernel_rfl)
        exact s.main [(0, .of q_scope_flow_tree_v461_0 (r_scope_flow_tree_v461_0 N))] ⟨l0, trivial⟩ (.trans (by kernel_rfl) h)
theorem c_scope_flow_tree_v461 (N : Nat) : C_scope_flow_tree_v461.Ok prog N := (cs_scope_flow_tree_v461 N)
noncomputable def F_scope_sure : Fn C_scope_sure := ⟨f26, [], ⟨[], [], sbf, bof⟩, fun _ => [C_scope_flow_tree_v461], [false], none, 0, 0, fun _ _ => true, none, [], []⟩
theorem o_scope_sure : F_scope_sure.Ok prog := ⟨Is.of (by kernel_rfl) (by kernel_rfl), by kernel_rfl, hint_sb sb_ok bo_ok, trivial, trivial, fun _ => by kernel_rfl⟩
theorem c_scope_sure (N : Nat) : C_scope_sure.Ok prog N := o_scope_sure.give tb_ok hm N N (fun _ => ⟨c_scope_flow_tree_v461 N, trivial⟩) fun a r s h => by
  exact s.main [] trivial (.trans (by kernel_rfl) h)
noncomputable def F_scope_Bound : Fn C_scope_Bound := ⟨f15, [], ⟨[(51, 1), (2000037, 10), (2000042, 11)], [], sbf, bof⟩, fun _ => [C_shape_Check, C_scope_leaf, C_scope_sure, C_slices_Sort_string_v986], [true], none, 0, 0, fun _ _ => true, none, [], []⟩
theorem o_scope_Bound : F_scope_Bound.Ok prog := ⟨Is.of (by kernel_rfl) (by kernel_rfl), by kernel_rfl, hint_sb sb_ok bo_ok, trivial, trivial, fun _ => by kernel_rfl⟩
theorem c_scope_Bound (N : Nat) : C_scope_Bound.Ok prog N := o_scope_Bound.give tb_ok hm N N (fun _ => ⟨c_shape_Check N, c_scope_leaf N, c_scope_sure N, c_slices_Sort_string_v986 N, trivial⟩) fun a r s h => by
  have l0 := s.loop 0 q_scope_Bound_0 (f_scope_Bound_0 N) N fun next0 h0 => by
    exact fun c v => s.seg 0 q_scope_Bound_0 [(0, .of q_scope_Bound_0 next0)] ⟨h0, trivial⟩ (by kernel_rfl) (by kernel_rfl)
  exact s.main [(0, .of q_scope_Bound_0 (r_scope_Bound_0 N))] ⟨l0, trivial⟩ (.trans (by kernel_rfl) h)
end
end
section
open Go.Proofs.Tryz
set_option maxRecDepth 1000000
noncomputable section
noncomputable def F_law15_ScopeSure : Fn C_law15_ScopeSure := ⟨f5, [], ⟨[], [], sbf, bof⟩, fun _ => [C_law13_Over, C_law15_awake, C_law13_Own, C_scope_Walk, C_scope_Bound], [true], none, 0, 0, fun _ _ => true, none, [], []⟩
theorem o_law15_ScopeSure : F_law15_ScopeSure.Ok prog := ⟨Is.of (by kernel_rfl) (by kernel_rfl), by kernel_rfl, hint_sb sb_ok bo_ok, trivial, trivial, fun _ => by kernel_rfl⟩
theorem c_law15_ScopeSure (N : Nat) : C_law15_ScopeSure.Ok prog N := o_law15_ScopeSure.give tb_ok hm N N (fun _ => ⟨c_law13_Over N, c_law15_awake N, c_law13_Own N, c_scope_Walk N, c_scope_Bound N, trivial⟩) fun a r s h => by
  have l0 := s.loop 0 q_law15_ScopeSure_0 (f_law15_ScopeSure_0 N) N fun next0 h0 => by
    have l2 := s.loop 2 q_law15_ScopeSure_2 (f_law15_ScopeSure_2 N next0) N fun next2 h2 => by
      have l4 := s.loop 4 q_law15_ScopeSure_4 (f_law15_ScopeSure_4 N next2) N fun next4 h4 => by
        exact fun c v => s.seg 4 q_law15_ScopeSure_4 [(2, .of q_law15_ScopeSure_2 next2), (4, .of q_law15_ScopeSure_4 next4)] ⟨h2, h4, trivial⟩ (by kernel_rfl) (by kernel_rfl)
      exact fun c v => s.seg 2 q_law15_ScopeSure_2 [(0, .of q_law15_ScopeSure_0 next0), (2, .of q_law15_ScopeSure_2 next2), (4, .of q_law15_ScopeSure_4 (r_law15_ScopeSure_4 N next2))] ⟨h0, h2, l4, trivial⟩ (by kernel_rfl) (by kernel_rfl)
    exact fun c v => s.seg 0 q_law15_ScopeSure_0 [(0, .of q_law15_ScopeSure_0 next0), (2, .of q_law15_ScopeSure_2 (r_law15_ScopeSure_2 N next0))] ⟨h0, l2, trivial⟩ (by kernel_rfl) (by kernel_rfl)
  exact s.main [(0, .of q_law15_ScopeSure_0 (r_law15_ScopeSure_0 N))] ⟨l0, trivial⟩ (.trans (by kernel_rfl) h)
end
end
end Go.Proofs.YtbioikdfpfafaaaGreatDoor.W
