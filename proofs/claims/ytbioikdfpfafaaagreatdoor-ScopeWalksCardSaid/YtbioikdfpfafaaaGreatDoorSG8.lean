/- The code, and what each function of it is walked to. No premise beyond what each theorem says. -/
import Derived.Test.YtbioikdfpfafaaaGreatDoorSG7
set_option linter.all false
set_option linter.unusedSimpArgs false
set_option linter.unusedVariables false
namespace Go.Proofs.YtbioikdfpfafaaaGreatDoor.S
open Go
section
open Go.Proofs.Tryz
set_option maxRecDepth 1000000
noncomputable section
noncomputable def F_law11_Own : Fn C_law11_Own := ⟨f23, [], ⟨[(28, 4)], [], sbf, bof⟩, fun _ => [], [true], none, 0, 0, fun _ _ => true, none, [], []⟩
theorem o_law11_Own : F_law11_Own.Ok prog := ⟨Is.of (by kernel_rfl) (by kernel_rfl), by kernel_rfl, hint_sb sb_ok bo_ok, trivial, trivial, fun _ => by kernel_rfl⟩
theorem c_law11_Own (N : Nat) : C_law11_Own.Ok prog N := o_law11_Own.give tb_ok hm N N (fun _ => trivial) fun a r s h => by
  have l0 := s.loop 0 q_law11_Own_0 (f_law11_Own_0 N) N fun next0 h0 => by
    exact fun c v => s.seg 0 q_law11_Own_0 [(0, .of q_law11_Own_0 next0)] ⟨h0, trivial⟩ (by kernel_rfl) (by kernel_rfl)
  exact s.main [(0, .of q_law11_Own_0 (r_law11_Own_0 N))] ⟨l0, trivial⟩ (.trans (by kernel_rfl) h)
noncomputable def F_law13_Own : Fn C_law13_Own := ⟨f10, [], ⟨[(43, 5)], [], sbf, bof⟩, fun _ => [C_law11_Own], [true], none, 0, 0, fun _ _ => true, none, [], []⟩
theorem o_law13_Own : F_law13_Own.Ok prog := ⟨Is.of (by kernel_rfl) (by kernel_rfl), by kernel_rfl, hint_sb sb_ok bo_ok, trivial, trivial, fun _ => by kernel_rfl⟩
theorem c_law13_Own (N : Nat) : C_law13_Own.Ok prog N := o_law13_Own.give tb_ok hm N N (fun _ => ⟨c_law11_Own N, trivial⟩) fun a r s h => by
  have l0 := s.loop 0 q_law13_Own_0 (f_law13_Own_0 N) N fun next0 h0 => by
    exact fun c v => s.seg 0 q_law13_Own_0 [(0, .of q_law13_Own_0 next0)] ⟨h0, trivial⟩ (by kernel_rfl) (by kernel_rfl)
  exact s.main [(0, .of q_law13_Own_0 (r_law13_Own_0 N))] ⟨l0, trivial⟩ (.trans (by kernel_rfl) h)
noncomputable def F_shape_Node_list : Fn C_shape_Node_list := ⟨f139, [], ⟨[], [], sbf, bof⟩, fun _ => [], [true], none, 0, 0, fun _ _ => true, none, [], []⟩
theorem o_shape_Node_list : F_shape_Node_list.Ok prog := ⟨Is.of (by kernel_rfl) (by kernel_rfl), by kernel_rfl, hint_sb sb_ok bo_ok, trivial, trivial, fun _ => by kernel_rfl⟩
theorem c_shape_Node_list (N : Nat) : C_shape_Node_list.Ok prog N := o_shape_Node_list.give tb_ok hm N N (fun _ => trivial) fun a r s h => by
  exact s.main [] trivial (.trans (by kernel_rfl) h)
noncomputable def F_shape_Node_stands : Fn C_shape_Node_stands := ⟨f92, [], ⟨[], [], sbf, bof⟩, fun _ => [C_shape_Node_list], [true], none, 0, 0, fun _ _ => true, none, [], []⟩
theorem o_shape_Node_stands : F_shape_Node_stands.Ok prog := ⟨Is.of (by kernel_rfl) (by kernel_rfl), by kernel_rfl, hint_sb sb_ok bo_ok, trivial, trivial, fun _ => by kernel_rfl⟩
theorem c_shape_Node_stands (N : Nat) : C_shape_Node_stands.Ok prog N := o_shape_Node_stands.give tb_ok hm N N (fun _ => ⟨c_shape_Node_list N, trivial⟩) fun a r s h => by
  exact s.main [] trivial (.trans (by kernel_rfl) h)
noncomputable def F_shape_Node_often : Fn C_shape_Node_often := ⟨f140, [], ⟨[], [], sbf, bof⟩, fun _ => [], [true], none, 0, 0, fun _ _ => true, none, [], []⟩
theorem o_shape_Node_often : F_shape_Node_often.Ok prog := ⟨Is.of (by kernel_rfl) (by kernel_rfl), by kernel_rfl, hint_sb sb_ok bo_ok, trivial, trivial, fun _ => by kernel_rfl⟩
theorem c_shape_Node_often (N : Nat) : C_shape_Node_often.Ok prog N := o_shape_Node_often.give tb_ok hm N N (fun _ => trivial) fun a r s h => by
  exact s.main [] trivial (.trans (by kernel_rfl) h)
noncomputable def F_shape_Node_lacks : Fn C_shape_Node_lacks := ⟨f93, [], ⟨[], [], sbf, bof⟩, fun _ => [C_shape_Node_list, C_shape_Node_often, C_schema_Name, C_pred_Check], [true], none, 0, 0, fun _ _ => true, none, [], []⟩
theorem o_shape_Node_lacks : F_shape_Node_lacks.Ok prog := ⟨Is.of (by kernel_rfl) (by kernel_rfl), by kernel_rfl, hint_sb sb_ok bo_ok, trivial, trivial, fun _ => by kernel_rfl⟩
theorem c_shape_Node_lacks (N : Nat) : C_shape_Node_lacks.Ok prog N := o_shape_Node_lacks.give tb_ok hm N N (fun _ => ⟨c_shape_Node_list N, c_shape_Node_often N, c_schema_Name N, c_pred_Check N, trivial⟩) fun a r s h => by
  exact s.main [] trivial (.trans (by kernel_rfl) h)
noncomputable def F_shape_Node_leaf : Fn C_shape_Node_leaf := ⟨f142, [], ⟨[], [], sbf, bof⟩, fun _ => [], [true], none, 0, 0, fun _ _ => true, none, [], []⟩
theorem o_shape_Node_leaf : F_shape_Node_leaf.Ok prog := ⟨Is.of (by kernel_rfl) (by kernel_rfl), by kernel_rfl, hint_sb sb_ok bo_ok, trivial, trivial, fun _ => by kernel_rfl⟩
theorem c_shape_Node_leaf (N : Nat) : C_shape_Node_leaf.Ok prog N := o_shape_Node_leaf.give tb_ok hm N N (fun _ => trivial) fun a r s h => by
  exact s.main [] trivial (.trans (by kernel_rfl) h)
noncomputable def F_shape_Node_more : Fn C_shape_Node_more := ⟨f94, [], ⟨[], [], sbf, bof⟩, fun _ => [C_shape_Node_leaf], [true], none, 0, 0, fun _ _ => true, none, [], []⟩
theorem o_shape_Node_more : F_shape_Node_more.Ok prog := ⟨Is.of (by kernel_rfl) (by kernel_rfl), by kernel_rfl, hint_sb sb_ok bo_ok, trivial, trivial, fun _ => by kernel_rfl⟩
theorem c_shape_Node_more (N : Nat) : C_shape_Node_more.Ok prog N := o_shape_Node_more.give tb_ok hm N N (fun _ => ⟨c_shape_Node_leaf N, trivial⟩) fun a r s h => by
  exact s.main [] trivial (.trans (by kernel_rfl) h)
noncomputable def F_shape_Node_kids : Fn C_shape_Node_kids := ⟨f95, [], ⟨[], [], sbf, bof⟩, fun _ => [C_shape_Node_list], [true], none, 0, 0, fun _ _ => true, none, [], []⟩
theorem o_shape_Node_kids : F_shape_Node_kids.Ok prog := ⟨Is.of (by kernel_rfl) (by kernel_rfl), by kernel_rfl, hint_sb sb_ok bo_ok, trivial, trivial, fun _ => by kernel_rfl⟩
theorem c_shape_Node_kids (N : Nat) : C_shape_Node_kids.Ok prog N := o_shape_Node_kids.give tb_ok hm N N (fun _ => ⟨c_shape_Node_list N, trivial⟩) fun a r s h => by
  exact s.main [] trivial (.trans (by kernel_rfl) h)
noncomputable def F_shape_tree : Fn C_shape_tree := ⟨f48, [], ⟨[], [], sbf, bof⟩, fun _ => [C_shape_Node_stands, C_shape_Node_lacks, C_shape_Node_more, C_shape_Node_kids, C_shape_tree], [true, true], none, 0, 0, fun _ _ => true, none, [], []⟩
theorem o_shape_tree : F_shape_tree.Ok prog := ⟨Is.of (by kernel_rfl) (by kernel_rfl), by kernel_rfl, hint_sb sb_ok bo_ok, trivial, trivial, fun _ => by kernel_rfl⟩
theorem cs_shape_tree : ∀ N, C_shape_tree.Ok prog N
  | 0 => ⟨o_shape_tree.is.enters, fun a r h => by (have h : none = some r := h; cases h)⟩
  | N + 1 => by
    obtain h_shape_tree := cs_shape_tree N
    · exact o_shape_tree.give tb_ok hm N (N + 1) (fun _ => ⟨c_shape_Node_stands N, c_shape_Node_lacks N, c_shape_Node_more N, c_shape_Node_kids N, h_shape_tree, trivial⟩) fun a r s h => by
        have l1 := s.loop 1 q_shape_tree_1 (f_shape_tree_1 N) N fun next1 h1 => by
          exact fun c v => s.seg 1 q_shape_tree_1 [(1, .of q_shape_tree_1 next1)] ⟨h1, trivial⟩ (by kernel_rfl) (by kernel_rfl)
        exact s.main [(1, .of q_shape_tree_1 (r_shape_tree_1 N))] ⟨l1, trivial⟩ (.trans (by kernel_rfl) h)
theorem c_shape_tree (N : Nat) : C_shape_tree.Ok prog N := (cs_shape_tree N)
noncomputable def F_shape_Word : Fn C_shape_Word := ⟨f50, [], ⟨[], [], sbf, bof⟩, fun _ => [], [true], none, 0, 0, fun _ _ => true, none, [], []⟩
theorem o_shape_Word : F_shape_Word.Ok prog := ⟨Is.of (by kernel_rfl) (by kernel_rfl), by kernel_rfl, hint_sb sb_ok bo_ok, trivial, trivial, fun _ => by kernel_rfl⟩
theorem c_shape_Word (N : Nat) : C_shape_Word.Ok prog N := o_shape_Word.give tb_ok hm N N (fun _ => trivial) fun a r s h => by
  exact s.main [] trivial (.trans (by kernel_rfl) h)
noncomputable def F_shape_Check : Fn C_shape_Check := ⟨f24, [], ⟨[], [], sbf, bof⟩, fun _ => [C_shape_tree, C_schema_Name, C_shape_Word], [true], none, 0, 0, fun _ _ => true, none, [], []⟩
theorem o_shape_Check : F_shape_Check.Ok prog := ⟨Is.of (by kernel_rfl) (by kernel_rfl), by kernel_rfl, hint_sb sb_ok bo_ok, trivial, trivial, fun _ => by kernel_rfl⟩
theorem c_shape_Check (N : Nat) : C_shape_Check.Ok prog N := o_shape_Check.give tb_ok hm N N (fun _ => ⟨c_shape_tree N, c_schema_Name N, c_shape_Word N, trivial⟩) fun a r s h => by
  exact s.main [] trivial (.trans (by kernel_rfl) h)
noncomputable def F_scope_leaf : Fn C_scope_leaf := ⟨f28, [], ⟨[], [], sbf, bof⟩, fun _ => [], [true], none, 0, 0, fun _ _ => true, none, [], []⟩
theorem o_scope_leaf : F_scope_leaf.Ok prog := ⟨Is.of (by kernel_rfl) (by kernel_rfl), by kernel_rfl, hint_sb sb_ok bo_ok, trivial, trivial, fun _ => by kernel_rfl⟩
theorem c_scope_leaf (N : Nat) : C_scope_leaf.Ok prog N := o_scope_leaf.give tb_ok hm N N (fun _ => trivial) fun a r s h => by
  exact s.main [] trivial (.trans (by kernel_rfl) h)
noncomputable def F_scope_walker_choice_v240 : Fn C_scope_walker_choice_v240 := ⟨f77, [], ⟨[], [], sbf, bof⟩, fun _ => [], [true], none, 1, 0, fun _ _ => true, none, [], []⟩
theorem o_scope_walker_choice_v240 : F_scope_walker_choice_v240.Ok prog := ⟨Is.of (by kernel_rfl) (by kernel_rfl), by kernel_rfl, hint_sb sb_ok bo_ok, trivial, trivial, fun _ => by kernel_rfl⟩
theorem c_scope_walker_choice_v240 (N : Nat) : C_scope_walker_choice_v240.Ok prog N := o_scope_walker_choice_v240.give tb_ok hm N N (fun _ => trivial) fun a r s h => by
  exact s.main [] trivial (.trans (by kernel_rfl) h)
noncomputable def F_shape_Size : Fn C_shape_Size := ⟨f78, [], ⟨[], [], sbf, bof⟩, fun _ => [C_shape_Node_kids], [true], none, 0, 0, fun _ _ => true, none, [], []⟩
theorem o_shape_Size : F_shape_Size.Ok prog := ⟨Is.of (by kernel_rfl) (by kernel_rfl), by kernel_rfl, hint_sb sb_ok bo_ok, trivial, trivial, fun _ => by kernel_rfl⟩
theorem c_shape_Size (N : Nat) : C_shape_Size.Ok prog N := o_shape_Size.give tb_ok hm N N (fun _ => ⟨c_shape_Node_kids N, trivial⟩) fun a r s h => by
  have l0 := s.loop 0 q_shape_Size_0 (f_shape_Size_0 N) N fun next0 h0 => by
    exact fun c v => s.seg 0 q_shape_Size_0 [(0, .of q_shape_Size_0 next0)] ⟨h0, trivial⟩ (by kernel_rfl) (by kernel_rfl)
  exact s.main [(0, .of q_shape_Size_0 (r_shape_Size_0 N))] ⟨l0, trivial⟩ (.trans (by kernel_rfl) h)
noncomputable def F_scope_walker_choice_v758 : Fn C_scope_walker_choice_v758 := ⟨f77, [], ⟨[], [], sbf, bof⟩, fun _ => [], [true], none, 1, 1, fun _ _ => true, none, [], []⟩
theorem o_scope_walker_choice_v758 : F_scope_walker_choice_v758.Ok prog := ⟨Is.of (by kernel_rfl) (by kernel_rfl), by kernel_rfl, hint_sb sb_ok bo_ok, trivial, trivial, fun _ => by kernel_rfl⟩
theorem c_scope_walker_choice_v758 (N : Nat) : C_scope_walker_choice_v758.Ok prog N := o_scope_walker_choice_v758.give tb_ok hm N N (fun _ => trivial) fun a r s h => by
  exact s.main [] trivial (.trans (by kernel_rfl) h)
end
end
section
open Go.Proofs.Tryz
set_option maxRecDepth 1000000
noncomputable section
noncomputable def F_scope_walker_tree_v950 : Fn C_scope_walker_tree_v950 := ⟨f41, [], ⟨[(57, 0)], [], sbf, bof⟩, fun _ => [C_scope_leaf, C_scope_walker_choice_v758, C_shape_Size, C_scope_walker_tree_v950], [], none, 1, 1, fun _ _ => true, some EqR.cls, [], []⟩
theorem o_scope_walker_tree_v950 : F_scope_walker_tree_v950.Ok prog := ⟨Is.of (by kernel_rfl) (by kernel_rfl), by kernel_rfl, hint_sb sb_ok bo_ok, trivial, trivial, fun _ => by kernel_rfl⟩
theorem cs_scope_walker_tree_v950 : ∀ N, C_scope_walker_tree_v950.Ok prog N
  | 0 => ⟨o_scope_walker_tree_v950.is.enters, fun a r h => by (have h : none = some r := h; cases h)⟩
  | N + 1 => by
    obtain h_scope_walker_tree_v950 := cs_scope_walker_tree_v950 N
    · exact o_scope_walker_tree_v950.give tb_ok hm N (N + 1) (fun _ => ⟨c_scope_leaf N, c_scope_walker_choice_v758 N, c_shape_Size N, h_scope_walker_tree_v950, trivial⟩) fun a r s h => by
        have l3 := s.loop 3 q_scope_walker_tree_v950_3 (f_scope_walker_tree_v950_3 N) N fun next3 h3 => by
          exact fun c v => s.seg 3 q_scope_walker_tree_v950_3 [(3, .of q_scope_walker_tree_v950_3 next3)] ⟨h3, trivial⟩ (by kernel_rfl) (by kernel_rfl)
        have l5 := s.loop 5 q_scope_walker_tree_v950_5 (f_scope_walker_tree_v950_5 N) N fun next5 h5 => by
          exact fun c v => s.seg 5 q_scope_walker_tree_v950_5 [(5, .of q_scope_walker_tree_v950_5 next5)] ⟨h5, trivial⟩ (by kernel_rfl) (by kernel_rfl)
        have l1 := s.loop 1 q_scope_walker_tree_v950_1 (f_scope_walker_tree_v950_1 N) N fun next1 h1 => by
          exact fun c v => s.seg 1 q_scope_walker_tree_v950_1 [(1, .of q_scope_walker_tree_v950_1 next1)] ⟨h1, trivial⟩ (by kernel_rfl) (by kernel_rfl)
        exact s.main [(3, .of q_scope_walker_tree_v950_3 (r_scope_walker_tree_v950_3 N)), (5, .of q_scope_walker_tree_v950_5 (r_scope_walker_tree_v950_5 N)), (1, .of q_scope_walker_tree_v950_1 (r_scope_walker_tree_v950_1 N))] ⟨l3, l5, l1, trivial⟩ (.trans (by kernel_rfl) h)
theorem c_scope_walker_tree_v950 (N : Nat) : C_scope_walker_tree_v950.Ok prog N := (cs_scope_walker_tree_v950 N)
noncomputable def F_scope_walker_tree_v577 : Fn C_scope_walker_tree_v577 := ⟨f41, [], ⟨[(57, 0)], [], sbf, bof⟩, fun _ => [C_scope_leaf, C_scope_walker_choice_v240, C_shape_Size, C_scope_walker_tree_v577, C_scope_walker_tree_v950], [], none, 1, 0, fun _ _ => true, some EqR.cls, [], []⟩
theorem o_scope_walker_tree_v577 : F_scope_walker_tree_v577.Ok prog := ⟨Is.of (by kernel_rfl) (by kernel_rfl), by kernel_rfl, hint_sb sb_ok bo_ok, trivial, trivial, fun _ => by kernel_rfl⟩
theorem cs_scope_walker_tree_v577 : ∀ N, C_scope_walker_tree_v577.Ok prog N
  | 0 => ⟨o_scope_walker_tree_v577.is.enters, fun a r h => by (have h : none = some r := h; cases h)⟩
  | N + 1 => by
    obtain h_scope_walker_tree_v577 := cs_scope_walker_tree_v577 N
    · exact o_scope_walker_tree_v577.give tb_ok hm N (N + 1) (fun _ => ⟨c_scope_leaf N, c_scope_walker_choice_v240 N, c_shape_Size N, h_scope_walker_tree_v577, c_scope_walker_tree_v950 N, trivial⟩) fun a r s h => by
        have l3 := s.loop 3 q_scope_walker_tree_v577_3 (f_scope_walker_tree_v577_3 N) N fun next3 h3 => by
          exact fun c v => s.seg 3 q_scope_walker_tree_v577_3 [(3, .of q_scope_walker_tree_v577_3 next3)] ⟨h3, trivial⟩ (by kernel_rfl) (by kernel_rfl)
        have l5 := s.loop 5 q_scope_walker_tree_v577_5 (f_scope_walker_tree_v577_5 N) N fun next5 h5 => by
          exact fun c v => s.seg 5 q_scope_walker_tree_v577_5 [(5, .of q_scope_walker_tree_v577_5 next5)] ⟨h5, trivial⟩ (by kernel_rfl) (by kernel_rfl)
        have l1 := s.loop 1 q_scope_walker_tree_v577_1 (f_scope_walker_tree_v577_1 N) N fun next1 h1 => by
          exact fun c v => s.seg 1 q_scope_walker_tree_v577_1 [(1, .of q_scope_walker_tree_v577_1 next1)] ⟨h1, trivial⟩ (by kernel_rfl) (by kernel_rfl)
        exact s.main [(3, .of q_scope_walker_tree_v577_3 (r_scope_walker_tree_v577_3 N)), (5, .of q_scope_walker_tree_v577_5 (r_scope_walker_tree_v577_5 N)), (1, .of q_scope_walker_tree_v577_1 (r_scope_walker_tree_v577_1 N))] ⟨l3, l5, l1, trivial⟩ (.trans (by kernel_rfl) h)
theorem c_scope_walker_tree_v577 (N : Nat) : C_scope_walker_tree_v577.Ok prog N := (cs_scope_walker_tree_v577 N)
noncomputable def F_scope_Walk : Fn C_scope_Walk := ⟨f18, [], ⟨[], [], sbf, bof⟩, fun _ => [C_shape_Check, C_scope_walker_tree_v577], [true], none, 0, 0, fun _ _ => true, none, [], []⟩
theorem o_scope_Walk : F_scope_Walk.Ok prog := ⟨Is.of (by kernel_rfl) (by kernel_rfl), by kernel_rfl, hint_sb sb_ok bo_ok, trivial, trivial, fun _ => by kernel_rfl⟩
theorem c_scope_Walk (N : Nat) : C_scope_Walk.Ok prog N := o_scope_Walk.give tb_ok hm N N (fun _ => ⟨c_shape_Check N, c_scope_walker_tree_v577 N, trivial⟩) fun a r s h => by
  exact s.main [] trivial (.trans (by kernel_rfl) h)
noncomputable def F_ref06_Reserved : Fn C_ref06_Reserved := ⟨f107, [], ⟨[(5, 1)], [], sbf, bof⟩, fun _ => [], [true], none, 0, 0, fun _ _ => true, none, [], []⟩
theorem o_ref06_Reserved : F_ref06_Reserved.Ok prog := ⟨Is.of (by kernel_rfl) (by kernel_rfl), by kernel_rfl, hint_sb sb_ok bo_ok, trivial, trivial, fun _ => by kernel_rfl⟩
theorem c_ref06_Reserved (N : Nat) : C_ref06_Reserved.Ok prog N := o_ref06_Reserved.give tb_ok hm N N (fun _ => trivial) fun a r s h => by
  have l0 := s.loop 0 q_ref06_Reserved_0 (f_ref06_Reserved_0 N) N fun next0 h0 => by
    exact fun c v => s.seg 0 q_ref06_Reserved_0 [(0, .of q_ref06_Reserved_0 next0)] ⟨h0, trivial⟩ (by kernel_rfl) (by kernel_rfl)
  exact s.main [(0, .of q_ref06_Reserved_0 (r_ref06_Reserved_0 N))] ⟨l0, trivial⟩ (.trans (by kernel_rfl) h)
noncomputable def F_ref06_Name : Fn C_ref06_Name := ⟨f61, [], ⟨[], [], sbf, bof⟩, fun _ => [C_ref06_Reserved], [true], none, 0, 0, fun _ _ => true, none, [], []⟩
theorem o_ref06_Name : F_ref06_Name.Ok prog := ⟨Is.of (by kernel_rfl) (by kernel_rfl), by kernel_rfl, hint_sb sb_ok bo_ok, trivial, trivial, fun _ => by kernel_rfl⟩
theorem c_ref06_Name (N : Nat) : C_ref06_Name.Ok prog N := o_ref06_Name.give tb_ok hm N N (fun _ => ⟨c_ref06_Reserved N, trivial⟩) fun a r s h => by
  have l0 := s.loop 0 q_ref06_Name_0 (f_ref06_Name_0 N) N fun next0 h0 => by
    exact fun c v => s.seg 0 q_ref06_Name_0 [(0, .of q_ref06_Name_0 next0)] ⟨h0, trivial⟩ (by kernel_rfl) (by kernel_rfl)
  exact s.main [(0, .of q_ref06_Name_0 (r_ref06_Name_0 N))] ⟨l0, trivial⟩ (.trans (by kernel_rfl) h)
noncomputable def F_ref11_may : Fn C_ref11_may := ⟨f189, [], ⟨[], [], sbf, bof⟩, fun _ => [], [true], none, 0, 0, fun _ _ => true, none, [], []⟩
theorem o_ref11_may : F_ref11_may.Ok prog := ⟨Is.of (by kernel_rfl) (by kernel_rfl), by kernel_rfl, hint_sb sb_ok bo_ok, trivial, trivial, fun _ => by kernel_rfl⟩
theorem c_ref11_may (N : Nat) : C_ref11_may.Ok prog N := o_ref11_may.give tb_ok hm N N (fun _ => trivial) fun a r s h => by
  exact s.main [] trivial (.trans (by kernel_rfl) h)
noncomputable def F_ref03_Exp : Fn C_ref03_Exp := ⟨f213, [], ⟨[], [], sbf, bof⟩, fun _ => [], [true], none, 0, 0, fun _ _ => true, none, [], []⟩
theorem o_ref03_Exp : F_ref03_Exp.Ok prog := ⟨Is.of (by kernel_rfl) (by kernel_rfl), by kernel_rfl, hint_sb sb_ok bo_ok, trivial, trivial, fun _ => by kernel_rfl⟩
theorem c_ref03_Exp (N : Nat) : C_ref03_Exp.Ok prog N := o_ref03_Exp.give tb_ok hm N N (fun _ => trivial) fun a r s h => by
  exact s.main [] trivial (.trans (by kernel_rfl) h)
noncomputable def F_ref03_Frac : Fn C_ref03_Frac := ⟨f214, [], ⟨[], [], sbf, bof⟩, fun _ => [], [true], none, 0, 0, fun _ _ => true, none, [], []⟩
theorem o_ref03_Frac : F_ref03_Frac.Ok prog := ⟨Is.of (by kernel_rfl) (by kernel_rfl), by kernel_rfl, hint_sb sb_ok bo_ok, trivial, trivial, fun _ => by kernel_rfl⟩
theorem c_ref03_Frac (N : Nat) : C_ref03_Frac.Ok prog N := o_ref03_Frac.give tb_ok hm N N (fun _ => trivial) fun a r s h => by
  exact s.main [] trivial (.trans (by kernel_rfl) h)
noncomputable def F_ref03_Kind : Fn C_ref03_Kind := ⟨f209, [], ⟨[], [], sbf, bof⟩, fun _ => [C_ref03_Exp, C_ref03_Frac], [true], none, 0, 0, fun _ _ => true, none, [], []⟩
theorem o_ref03_Kind : F_ref03_Kind.Ok prog := ⟨Is.of (by kernel_rfl) (by kernel_rfl), by kernel_rfl, hint_sb sb_ok bo_ok, trivial, trivial, fun _ => by kernel_rfl⟩
theorem c_ref03_Kind (N : Nat) : C_ref03_Kind.Ok prog N := o_ref03_Kind.give tb_ok hm N N (fun _ => ⟨c_ref03_Exp N, c_ref03_Frac N, trivial⟩) fun a r s h => by
  exact s.main [] trivial (.trans (by kernel_rfl) h)
noncomputable def F_ref03_Clean : Fn C_ref03_Clean := ⟨f205, [], ⟨[], [], sbf, bof⟩, fun _ => [C_ref03_Kind], [true], none, 0, 0, fun _ _ => true, none, [], []⟩
theorem o_ref03_Clean : F_ref03_Clean.Ok prog := ⟨Is.of (by kernel_rfl) (by kernel_rfl), by kernel_rfl, hint_sb sb_ok bo_ok, trivial, trivial, fun _ => by kernel_rfl⟩
theorem c_ref03_Clean (N : Nat) : C_ref03_Clean.Ok prog N := o_ref03_Clean.give tb_ok hm N N (fun _ => ⟨c_ref03_Kind N, trivial⟩) fun a r s h => by
  exact s.main [] trivial (.trans (by kernel_rfl) h)
noncomputable def F_ref04_Check : Fn C_ref04_Check := ⟨f200, [], ⟨[], [], sbf, bof⟩, fun _ => [C_ref03_Clean], [true], none, 0, 0, fun _ _ => true, none, [], []⟩
theorem o_ref04_Check : F_ref04_Check.Ok prog := ⟨Is.of (by kernel_rfl) (by kernel_rfl), by kernel_rfl, hint_sb sb_ok bo_ok, trivial, trivial, fun _ => by kernel_rfl⟩
theorem c_ref04_Check (N : Nat) : C_ref04_Check.Ok prog N := o_ref04_Check.give tb_ok hm N N (fun _ => ⟨c_ref03_Clean N, trivial⟩) fun a r s h => by
  exact s.main [] trivial (.trans (by kernel_rfl) h)
noncomputable def F_ref11_needs : Fn C_ref11_needs := ⟨f190, [], ⟨[], [], sbf, bof⟩, fun _ => [C_ref06_Name, C_ref04_Check], [true], none, 0, 0, fun _ _ => true, none, [], [114]⟩
theorem o_ref11_needs : F_ref11_needs.Ok prog := ⟨Is.of (by kernel_rfl) (by kernel_rfl), by kernel_rfl, hint_sb sb_ok bo_ok, trivial, trivial, fun _ => by kernel_rfl⟩
theorem c_ref11_needs (N : Nat) : C_ref11_needs.Ok prog N := o_ref11_needs.give tb_ok hm N N (fun _ => ⟨c_ref06_Name N, c_ref04_Check N, trivial⟩) fun a r s h => by
  have lj2 := s.jn 1000114 q_ref11_needs_j2 (r_ref11_needs_j2 N) [] trivial (by kernel_rfl) (fun x => by kernel_rfl)
  exact s.main [(1000114, .of q_ref11_needs_j2 (r_ref11_needs_j2 N))] ⟨lj2, trivial⟩ (.trans (by kernel_rfl) h)
noncomputable def F_ref11_Kids : Fn C_ref11_Kids := ⟨f191, [], ⟨[], [], sbf, bof⟩, fun _ => [], [true], none, 0, 0, fun _ _ => true, none, [], []⟩
theorem o_ref11_Kids : F_ref11_Kids.Ok prog := ⟨Is.of (by kernel_rfl) (by kernel_rfl), by kernel_rfl, hint_sb sb_ok bo_ok, trivial, trivial, fun _ => by kernel_rfl⟩
theorem c_ref11_Kids (N : Nat) : C_ref11_Kids.Ok prog N := o_ref11_Kids.give tb_ok hm N N (fun _ => trivial) fun a r s h => by
  exact s.main [] trivial (.trans (by kernel_rfl) h)
noncomputable def F_ref11_kid : Fn C_ref11_kid := ⟨f192, [], ⟨[], [], sbf, bof⟩, fun _ => [], [true], none, 0, 0, fun _ _ => true, none, [], []⟩
theorem o_ref11_kid : F_ref11_kid.Ok prog := ⟨Is.of (by kernel_rfl) (by kernel_rfl), by kernel_rfl, hint_sb sb_ok bo_ok, trivial, trivial, fun _ => by kernel_rfl⟩
theorem c_ref11_kid (N : Nat) : C_ref11_kid.Ok prog N := o_ref11_kid.give tb_ok hm N N (fun _ => trivial) fun a r s h => by
  exact s.main [] trivial (.trans (by kernel_rfl) h)
end
end
section
open Go.Proofs.Tryz
set_option maxRecDepth 1000000
noncomputable section
noncomputable def F_ref11_tree : Fn C_ref11_tree := ⟨f171, [], ⟨[], [], sbf, bof⟩, fun _ => [C_ref11_may, C_ref11_needs, C_ref11_Kids, C_ref11_kid, C_ref11_tree], [true, true], none, 0, 0, fun _ _ => true, none, [], []⟩
theorem o_ref11_tree : F_ref11_tree.Ok prog := ⟨Is.of (by kernel_rfl) (by kernel_rfl), by kernel_rfl, hint_sb sb_ok bo_ok, trivial, trivial, fun _ => by kernel_rfl⟩
theorem cs_ref11_tree : ∀ N, C_ref11_tree.Ok prog N
  | 0 => ⟨o_ref11_tree.is.enters, fun a r h => by (have h : none = some r := h; cases h)⟩
  | N + 1 => by
    obtain h_ref11_tree := cs_ref11_tree N
    · exact o_ref11_tree.give tb_ok hm N (N + 1) (fun _ => ⟨c_ref11_may N, c_ref11_needs N, c_ref11_Kids N, c_ref11_kid N, h_ref11_tree, trivial⟩) fun a r s h => by
        have l0 := s.loop 0 q_ref11_tree_0 (f_ref11_tree_0 N) N fun next0 h0 => by
          exact fun c v => s.seg 0 q_ref11_tree_0 [(0, .of q_ref11_tree_0 next0)] ⟨h0, trivial⟩ (by kernel_rfl) (by kernel_rfl)
        exact s.main [(0, .of q_ref11_tree_0 (r_ref11_tree_0 N))] ⟨l0, trivial⟩ (.trans (by kernel_rfl) h)
theorem c_ref11_tree (N : Nat) : C_ref11_tree.Ok prog N := (cs_ref11_tree N)
noncomputable def F_ref11_Check : Fn C_ref11_Check := ⟨f145, [], ⟨[], [], sbf, bof⟩, fun _ => [C_ref11_tree], [true], none, 0, 0, fun _ _ => true, none, [], []⟩
theorem o_ref11_Check : F_ref11_Check.Ok prog := ⟨Is.of (by kernel_rfl) (by kernel_rfl), by kernel_rfl, hint_sb sb_ok bo_ok, trivial, trivial, fun _ => by kernel_rfl⟩
theorem c_ref11_Check (N : Nat) : C_ref11_Check.Ok prog N := o_ref11_Check.give tb_ok hm N N (fun _ => ⟨c_ref11_tree N, trivial⟩) fun a r s h => by
  exact s.main [] trivial (.trans (by kernel_rfl) h)
noncomputable def F_ref13_needs : Fn C_ref13_needs := ⟨f105, [], ⟨[], [], sbf, bof⟩, fun _ => [C_ref06_Name, C_ref11_Check], [true], none, 0, 0, fun _ _ => true, none, [], [26, 42, 63, 163, 201]⟩
theorem o_ref13_needs : F_ref13_needs.Ok prog := ⟨Is.of (by kernel_rfl) (by kernel_rfl), by kernel_rfl, hint_sb sb_ok bo_ok, trivial, trivial, fun _ => by kernel_rfl⟩
theorem c_ref13_needs (N : Nat) : C_ref13_needs.Ok prog N := o_ref13_needs.give tb_ok hm N N (fun _ => ⟨c_ref06_Name N, c_ref11_Check N, trivial⟩) fun a r s h => by
  have lj4 := s.jn 1000201 q_ref13_needs_j4 (r_ref13_needs_j4 N) [] trivial (by kernel_rfl) (fun x => by kernel_rfl)
  have lj3 := s.jn 1000163 q_ref13_needs_j3 (r_ref13_needs_j3 N) [(1000201, .of q_ref13_needs_j4 (r_ref13_needs_j4 N))] ⟨lj4, trivial⟩ (by kernel_rfl) (fun x => by kernel_rfl)
  have lj2 := s.jn 1000063 q_ref13_needs_j2 (r_ref13_needs_j2 N) [(1000163, .of q_ref13_needs_j3 (r_ref13_needs_j3 N))] ⟨lj3, trivial⟩ (by kernel_rfl) (fun x => by kernel_rfl)
  have lj1 := s.jn 1000042 q_ref13_needs_j1 (r_ref13_needs_j1 N) [(1000063, .of q_ref13_needs_j2 (r_ref13_needs_j2 N))] ⟨lj2, trivial⟩ (by kernel_rfl) (fun x => by kernel_rfl)
  have lj0 := s.jn 1000026 q_ref13_needs_j0 (r_ref13_needs_j0 N) [(1000042, .of q_ref13_needs_j1 (r_ref13_needs_j1 N))] ⟨lj1, trivial⟩ (by kernel_rfl) (fun x => by kernel_rfl)
  exact s.main [(1000026, .of q_ref13_needs_j0 (r_ref13_needs_j0 N))] ⟨lj0, trivial⟩ (.trans (by kernel_rfl) h)
noncomputable def F_ref13_Kids : Fn C_ref13_Kids := ⟨f106, [], ⟨[], [], sbf, bof⟩, fun _ => [], [true], none, 0, 0, fun _ _ => true, none, [], []⟩
theorem o_ref13_Kids : F_ref13_Kids.Ok prog := ⟨Is.of (by kernel_rfl) (by kernel_rfl), by kernel_rfl, hint_sb sb_ok bo_ok, trivial, trivial, fun _ => by kernel_rfl⟩
theorem c_ref13_Kids (N : Nat) : C_ref13_Kids.Ok prog N := o_ref13_Kids.give tb_ok hm N N (fun _ => trivial) fun a r s h => by
  exact s.main [] trivial (.trans (by kernel_rfl) h)
noncomputable def F_ref13_tree : Fn C_ref13_tree := ⟨f60, [], ⟨[], [], sbf, bof⟩, fun _ => [C_ref13_needs, C_ref13_Kids, C_ref13_tree], [true, true], none, 0, 0, fun _ _ => true, none, [], []⟩
theorem o_ref13_tree : F_ref13_tree.Ok prog := ⟨Is.of (by kernel_rfl) (by kernel_rfl), by kernel_rfl, hint_sb sb_ok bo_ok, trivial, trivial, fun _ => by kernel_rfl⟩
theorem cs_ref13_tree : ∀ N, C_ref13_tree.Ok prog N
  | 0 => ⟨o_ref13_tree.is.enters, fun a r h => by (have h : none = some r := h; cases h)⟩
  | N + 1 => by
    obtain h_ref13_tree := cs_ref13_tree N
    · exact o_ref13_tree.give tb_ok hm N (N + 1) (fun _ => ⟨c_ref13_needs N, c_ref13_Kids N, h_ref13_tree, trivial⟩) fun a r s h => by
        have l0 := s.loop 0 q_ref13_tree_0 (f_ref13_tree_0 N) N fun next0 h0 => by
          exact fun c v => s.seg 0 q_ref13_tree_0 [(0, .of q_ref13_tree_0 next0)] ⟨h0, trivial⟩ (by kernel_rfl) (by kernel_rfl)
        exact s.main [(0, .of q_ref13_tree_0 (r_ref13_tree_0 N))] ⟨l0, trivial⟩ (.trans (by kernel_rfl) h)
theorem c_ref13_tree (N : Nat) : C_ref13_tree.Ok prog N := (cs_ref13_tree N)
noncomputable def F_ref13_Word : Fn C_ref13_Word := ⟨f62, [], ⟨[], [], sbf, bof⟩, fun _ => [], [true], none, 0, 0, fun _ _ => true, none, [], []⟩
theorem o_ref13_Word : F_ref13_Word.Ok prog := ⟨Is.of (by kernel_rfl) (by kernel_rfl), by kernel_rfl, hint_sb sb_ok bo_ok, trivial, trivial, fun _ => by kernel_rfl⟩
theorem c_ref13_Word (N : Nat) : C_ref13_Word.Ok prog N := o_ref13_Word.give tb_ok hm N N (fun _ => trivial) fun a r s h => by
  exact s.main [] trivial (.trans (by kernel_rfl) h)
noncomputable def F_ref13_Check : Fn C_ref13_Check := ⟨f32, [], ⟨[], [], sbf, bof⟩, fun _ => [C_ref13_tree, C_ref06_Name, C_ref13_Word], [true], none, 0, 0, fun _ _ => true, none, [], []⟩
theorem o_ref13_Check : F_ref13_Check.Ok prog := ⟨Is.of (by kernel_rfl) (by kernel_rfl), by kernel_rfl, hint_sb sb_ok bo_ok, trivial, trivial, fun _ => by kernel_rfl⟩
theorem c_ref13_Check (N : Nat) : C_ref13_Check.Ok prog N := o_ref13_Check.give tb_ok hm N N (fun _ => ⟨c_ref13_tree N, c_ref06_Name N, c_ref13_Word N, trivial⟩) fun a r s h => by
  exact s.main [] trivial (.trans (by kernel_rfl) h)
noncomputable def F_ref15_Leaf : Fn C_ref15_Leaf := ⟨f34, [], ⟨[], [], sbf, bof⟩, fun _ => [], [true], none, 0, 0, fun _ _ => true, none, [], []⟩
theorem o_ref15_Leaf : F_ref15_Leaf.Ok prog := ⟨Is.of (by kernel_rfl) (by kernel_rfl), by kernel_rfl, hint_sb sb_ok bo_ok, trivial, trivial, fun _ => by kernel_rfl⟩
theorem c_ref15_Leaf (N : Nat) : C_ref15_Leaf.Ok prog N := o_ref15_Leaf.give tb_ok hm N N (fun _ => trivial) fun a r s h => by
  exact s.main [] trivial (.trans (by kernel_rfl) h)
noncomputable def F_ref13_Size : Fn C_ref13_Size := ⟨f112, [], ⟨[], [], sbf, bof⟩, fun _ => [C_ref13_Kids], [true], none, 0, 0, fun _ _ => true, none, [], []⟩
theorem o_ref13_Size : F_ref13_Size.Ok prog := ⟨Is.of (by kernel_rfl) (by kernel_rfl), by kernel_rfl, hint_sb sb_ok bo_ok, trivial, trivial, fun _ => by kernel_rfl⟩
theorem c_ref13_Size (N : Nat) : C_ref13_Size.Ok prog N := o_ref13_Size.give tb_ok hm N N (fun _ => ⟨c_ref13_Kids N, trivial⟩) fun a r s h => by
  have l0 := s.loop 0 q_ref13_Size_0 (f_ref13_Size_0 N) N fun next0 h0 => by
    exact fun c v => s.seg 0 q_ref13_Size_0 [(0, .of q_ref13_Size_0 next0)] ⟨h0, trivial⟩ (by kernel_rfl) (by kernel_rfl)
  exact s.main [(0, .of q_ref13_Size_0 (r_ref13_Size_0 N))] ⟨l0, trivial⟩ (.trans (by kernel_rfl) h)
noncomputable def F_ref15_kids : Fn C_ref15_kids := ⟨f72, [], ⟨[(21, 0)], [], sbf, bof⟩, fun _ => [C_ref13_Kids, C_ref13_Size], [true], none, 0, 0, fun _ _ => true, none, [], []⟩
theorem o_ref15_kids : F_ref15_kids.Ok prog := ⟨Is.of (by kernel_rfl) (by kernel_rfl), by kernel_rfl, hint_sb sb_ok bo_ok, trivial, trivial, fun _ => by kernel_rfl⟩
theorem c_ref15_kids (N : Nat) : C_ref15_kids.Ok prog N := o_ref15_kids.give tb_ok hm N N (fun _ => ⟨c_ref13_Kids N, c_ref13_Size N, trivial⟩) fun a r s h => by
  have l0 := s.loop 0 q_ref15_kids_0 (f_ref15_kids_0 N) N fun next0 h0 => by
    exact fun c v => s.seg 0 q_ref15_kids_0 [(0, .of q_ref15_kids_0 next0)] ⟨h0, trivial⟩ (by kernel_rfl) (by kernel_rfl)
  exact s.main [(0, .of q_ref15_kids_0 (r_ref15_kids_0 N))] ⟨l0, trivial⟩ (.trans (by kernel_rfl) h)
noncomputable def F_ref15_choice : Fn C_ref15_choice := ⟨f79, [], ⟨[], [], sbf, bof⟩, fun _ => [], [true, true], none, 0, 0, fun _ _ => true, none, [], []⟩
theorem o_ref15_choice : F_ref15_choice.Ok prog := ⟨Is.of (by kernel_rfl) (by kernel_rfl), by kernel_rfl, hint_sb sb_ok bo_ok, trivial, trivial, fun _ => by kernel_rfl⟩
theorem c_ref15_choice (N : Nat) : C_ref15_choice.Ok prog N := o_ref15_choice.give tb_ok hm N N (fun _ => trivial) fun a r s h => by
  exact s.main [] trivial (.trans (by kernel_rfl) h)
noncomputable def F_ref15_walk : Fn C_ref15_walk := ⟨f42, [], ⟨[(22, 0), (27, 0)], [], sbf, bof⟩, fun _ => [C_ref15_Leaf, C_ref15_kids, C_ref15_choice, C_ref15_walk], [true], none, 0, 0, fun _ _ => true, none, [], []⟩
theorem o_ref15_walk : F_ref15_walk.Ok prog := ⟨Is.of (by kernel_rfl) (by kernel_rfl), by kernel_rfl, hint_sb sb_ok bo_ok, trivial, trivial, fun _ => by kernel_rfl⟩
theorem cs_ref15_walk : ∀ N, C_ref15_walk.Ok prog N
  | 0 => ⟨o_ref15_walk.is.enters, fun a r h => by (have h : none = some r := h; cases h)⟩
  | N + 1 => by
    obtain h_ref15_walk := cs_ref15_walk N
    · exact o_ref15_walk.give tb_ok hm N (N + 1) (fun _ => ⟨c_ref15_Leaf N, c_ref15_kids N, c_ref15_choice N, h_ref15_walk, trivial⟩) fun a r s h => by
        have l0 := s.loop 0 q_ref15_walk_0 (f_ref15_walk_0 N) N fun next0 h0 => by
          exact fun c v => s.seg 0 q_ref15_walk_0 [(0, .of q_ref15_walk_0 next0)] ⟨h0, trivial⟩ (by kernel_rfl) (by kernel_rfl)
        have l2 := s.loop 2 q_ref15_walk_2 (f_ref15_walk_2 N) N fun next2 h2 => by
          exact fun c v => s.seg 2 q_ref15_walk_2 [(2, .of q_ref15_walk_2 next2)] ⟨h2, trivial⟩ (by kernel_rfl) (by kernel_rfl)
        exact s.main [(0, .of q_ref15_walk_0 (r_ref15_walk_0 N)), (2, .of q_ref15_walk_2 (r_ref15_walk_2 N))] ⟨l0, l2, trivial⟩ (.trans (by kernel_rfl) h)
theorem c_ref15_walk (N : Nat) : C_ref15_walk.Ok prog N := (cs_ref15_walk N)
noncomputable def F_ref15_Walk : Fn C_ref15_Walk := ⟨f19, [], ⟨[], [], sbf, bof⟩, fun _ => [C_ref13_Check, C_ref15_walk], [true], none, 0, 0, fun _ _ => true, none, [], []⟩
theorem o_ref15_Walk : F_ref15_Walk.Ok prog := ⟨Is.of (by kernel_rfl) (by kernel_rfl), by kernel_rfl, hint_sb sb_ok bo_ok, trivial, trivial, fun _ => by kernel_rfl⟩
theorem c_ref15_Walk (N : Nat) : C_ref15_Walk.Ok prog N := o_ref15_Walk.give tb_ok hm N N (fun _ => ⟨c_ref13_Check N, c_ref15_walk N, trivial⟩) fun a r s h => by
  exact s.main [] trivial (.trans (by kernel_rfl) h)
noncomputable def F_law15_sameInts : Fn C_law15_sameInts := ⟨f17, [], ⟨[], [], sbf, bof⟩, fun _ => [], [true], none, 0, 0, fun _ _ => true, none, [], []⟩
theorem o_law15_sameInts : F_law15_sameInts.Ok prog := ⟨Is.of (by kernel_rfl) (by kernel_rfl), by kernel_rfl, hint_sb sb_ok bo_ok, trivial, trivial, fun _ => by kernel_rfl⟩
theorem c_law15_sameInts (N : Nat) : C_law15_sameInts.Ok prog N := o_law15_sameInts.give tb_ok hm N N (fun _ => trivial) fun a r s h => by
  have l0 := s.loop 0 q_law15_sameInts_0 (f_law15_sameInts_0 N) N fun next0 h0 => by
    exact fun c v => s.seg 0 q_law15_sameInts_0 [(0, .of q_law15_sameInts_0 next0)] ⟨h0, trivial⟩ (by kernel_rfl) (by kernel_rfl)
  exact s.main [(0, .of q_law15_sameInts_0 (r_law15_sameInts_0 N))] ⟨l0, trivial⟩ (.trans (by kernel_rfl) h)
noncomputable def F_law15_ScopeWalks : Fn C_law15_ScopeWalks := ⟨f4, [], ⟨[], [], sbf, bof⟩, fun _ => [C_law13_Over, C_law15_awake, C_law13_Own, C_scope_Walk, C_ref15_Walk, C_law15_sameInts], [true], none, 0, 0, fun _ _ => true, none, [], []⟩
theorem o_law15_ScopeWalks : F_law15_ScopeWalks.Ok prog := ⟨Is.of (by kernel_rfl) (by kernel_rfl), by kernel_rfl, hint_sb sb_ok bo_ok, trivial, trivial, fun _ => by kernel_rfl⟩
theorem c_law15_ScopeWalks (N : Nat) : C_law15_ScopeWalks.Ok prog N := o_law15_ScopeWalks.give tb_ok hm N N (fun _ => ⟨c_law13_Over N, c_law15_awake N, c_law13_Own N, c_scope_Walk N, c_ref15_Walk N, c_law15_sameInts N, trivial⟩) fun a r s h => by
  exact s.main [] trivial (.trans (by kernel_rfl) h)
end
end
end Go.Proofs.YtbioikdfpfafaaaGreatDoor.S
