/- The code, and what each function of it is walked to. No premise beyond what each theorem says. -/
import Derived.Test.YtbioikdfpfafaaaGreatDoorWG3
set_option linter.all false
set_option linter.unusedSimpArgs false
set_option linter.unusedVariables false
namespace Go.Proofs.YtbioikdfpfafaaaGreatDoor.W
open Go
section
open Go.Proofs.Tryz
set_option maxRecDepth 1000000
noncomputable section
noncomputable def F_predtext_parser_or_v927 : Fn C_predtext_parser_or_v927 := ⟨f203, [], ⟨[(16, 7)], [], sbf, bof⟩, fun _ => [C_predtext_parser_and_v927, C_predtext_parser_eat_v368, C_predtext_above], [true], none, 1, 0, fun _ _ => true, none, [], []⟩
theorem o_predtext_parser_or_v927 : F_predtext_parser_or_v927.Ok prog := ⟨Is.of (by kernel_rfl) (by kernel_rfl), by kernel_rfl, hint_sb sb_ok bo_ok, trivial, trivial, fun _ => by kernel_rfl⟩
noncomputable def F_predtext_parser_and_v927 : Fn C_predtext_parser_and_v927 := ⟨f206, [], ⟨[(16, 7)], [], sbf, bof⟩, fun _ => [C_predtext_parser_part_v927, C_predtext_parser_eat_v368, C_predtext_above], [true], none, 1, 0, fun _ _ => true, none, [], []⟩
theorem o_predtext_parser_and_v927 : F_predtext_parser_and_v927.Ok prog := ⟨Is.of (by kernel_rfl) (by kernel_rfl), by kernel_rfl, hint_sb sb_ok bo_ok, trivial, trivial, fun _ => by kernel_rfl⟩
noncomputable def F_predtext_parser_part_v927 : Fn C_predtext_parser_part_v927 := ⟨f210, [], ⟨[(18, 7), (49, 7)], [], sbf, bof⟩, fun _ => [C_predtext_parser_deeper_v927, C_predtext_parser_eat_v368, C_predtext_parser_part_v927, C_predtext_above, C_predtext_parser_or_v927, C_predtext_parser_fail_v927, C_predtext_parser_sum_v424, C_predtext_parser_next_v424, C_compare_Op, C_predtext_parser_take_v128], [true], none, 1, 0, fun _ _ => true, none, [], []⟩
theorem o_predtext_parser_part_v927 : F_predtext_parser_part_v927.Ok prog := ⟨Is.of (by kernel_rfl) (by kernel_rfl), by kernel_rfl, hint_sb sb_ok bo_ok, trivial, trivial, fun _ => by kernel_rfl⟩
theorem cs_predtext_parser_or_v927 : ∀ N, C_predtext_parser_or_v927.Ok prog N ∧ C_predtext_parser_and_v927.Ok prog N ∧ C_predtext_parser_part_v927.Ok prog N
  | 0 => ⟨⟨o_predtext_parser_or_v927.is.enters, fun a r h => by (have h : none = some r := h; cases h)⟩, ⟨o_predtext_parser_and_v927.is.enters, fun a r h => by (have h : none = some r := h; cases h)⟩, ⟨o_predtext_parser_part_v927.is.enters, fun a r h => by (have h : none = some r := h; cases h)⟩⟩
  | N + 1 => by
    obtain ⟨h_predtext_parser_or_v927, h_predtext_parser_and_v927, h_predtext_parser_part_v927⟩ := cs_predtext_parser_or_v927 N
    refine ⟨?_, ?_, ?_⟩
    · exact o_predtext_parser_or_v927.give tb_ok hm N (N + 1) (fun _ => ⟨h_predtext_parser_and_v927, c_predtext_parser_eat_v368 N, c_predtext_above N, trivial⟩) fun a r s h => by
        have l0 := s.loop 0 q_predtext_parser_or_v927_0 (f_predtext_parser_or_v927_0 N) N fun next0 h0 => by
          exact fun c v => s.seg 0 q_predtext_parser_or_v927_0 [(0, .of q_predtext_parser_or_v927_0 next0)] ⟨h0, trivial⟩ (by kernel_rfl) (by kernel_rfl)
        exact s.main [(0, .of q_predtext_parser_or_v927_0 (r_predtext_parser_or_v927_0 N))] ⟨l0, trivial⟩ (.trans (by kernel_rfl) h)
    · exact o_predtext_parser_and_v927.give tb_ok hm N (N + 1) (fun _ => ⟨h_predtext_parser_part_v927, c_predtext_parser_eat_v368 N, c_predtext_above N, trivial⟩) fun a r s h => by
        have l0 := s.loop 0 q_predtext_parser_and_v927_0 (f_predtext_parser_and_v927_0 N) N fun next0 h0 => by
          exact fun c v => s.seg 0 q_predtext_parser_and_v927_0 [(0, .of q_predtext_parser_and_v927_0 next0)] ⟨h0, trivial⟩ (by kernel_rfl) (by kernel_rfl)
        exact s.main [(0, .of q_predtext_parser_and_v927_0 (r_predtext_parser_and_v927_0 N))] ⟨l0, trivial⟩ (.trans (by kernel_rfl) h)
    · exact o_predtext_parser_part_v927.give tb_ok hm N (N + 1) (fun _ => ⟨c_predtext_parser_deeper_v927 N, c_predtext_parser_eat_v368 N, h_predtext_parser_part_v927, c_predtext_above N, h_predtext_parser_or_v927, c_predtext_parser_fail_v927 N, c_predtext_parser_sum_v424 N, c_predtext_parser_next_v424 N, c_compare_Op N, c_predtext_parser_take_v128 N, trivial⟩) fun a r s h => by
        exact s.main [] trivial (.trans (by kernel_rfl) h)
theorem c_predtext_parser_or_v927 (N : Nat) : C_predtext_parser_or_v927.Ok prog N := (cs_predtext_parser_or_v927 N).1
noncomputable def F_pred_Node_stands : Fn C_pred_Node_stands := ⟨f183, [], ⟨[], [], sbf, bof⟩, fun _ => [], [true], none, 0, 0, fun _ _ => true, none, [], []⟩
theorem o_pred_Node_stands : F_pred_Node_stands.Ok prog := ⟨Is.of (by kernel_rfl) (by kernel_rfl), by kernel_rfl, hint_sb sb_ok bo_ok, trivial, trivial, fun _ => by kernel_rfl⟩
theorem c_pred_Node_stands (N : Nat) : C_pred_Node_stands.Ok prog N := o_pred_Node_stands.give tb_ok hm N N (fun _ => trivial) fun a r s h => by
  exact s.main [] trivial (.trans (by kernel_rfl) h)
noncomputable def F_schema_letter : Fn C_schema_letter := ⟨f96, [], ⟨[], [], sbf, bof⟩, fun _ => [], [true], none, 0, 0, fun _ _ => true, none, [], []⟩
theorem o_schema_letter : F_schema_letter.Ok prog := ⟨Is.of (by kernel_rfl) (by kernel_rfl), by kernel_rfl, hint_sb sb_ok bo_ok, trivial, trivial, fun _ => by kernel_rfl⟩
theorem c_schema_letter (N : Nat) : C_schema_letter.Ok prog N := o_schema_letter.give tb_ok hm N N (fun _ => trivial) fun a r s h => by
  exact s.main [] trivial (.trans (by kernel_rfl) h)
noncomputable def F_schema_Reserved : Fn C_schema_Reserved := ⟨f97, [], ⟨[], [], sbf, bof⟩, fun _ => [], [true], none, 0, 0, fun _ _ => true, none, [], []⟩
theorem o_schema_Reserved : F_schema_Reserved.Ok prog := ⟨Is.of (by kernel_rfl) (by kernel_rfl), by kernel_rfl, hint_sb sb_ok bo_ok, trivial, trivial, fun _ => by kernel_rfl⟩
theorem c_schema_Reserved (N : Nat) : C_schema_Reserved.Ok prog N := o_schema_Reserved.give tb_ok hm N N (fun _ => trivial) fun a r s h => by
  exact s.main [] trivial (.trans (by kernel_rfl) h)
noncomputable def F_schema_tail : Fn C_schema_tail := ⟨f98, [], ⟨[], [], sbf, bof⟩, fun _ => [C_schema_letter], [true], none, 0, 0, fun _ _ => true, none, [], []⟩
theorem o_schema_tail : F_schema_tail.Ok prog := ⟨Is.of (by kernel_rfl) (by kernel_rfl), by kernel_rfl, hint_sb sb_ok bo_ok, trivial, trivial, fun _ => by kernel_rfl⟩
theorem c_schema_tail (N : Nat) : C_schema_tail.Ok prog N := o_schema_tail.give tb_ok hm N N (fun _ => ⟨c_schema_letter N, trivial⟩) fun a r s h => by
  exact s.main [] trivial (.trans (by kernel_rfl) h)
noncomputable def F_schema_Name : Fn C_schema_Name := ⟨f49, [], ⟨[], [], sbf, bof⟩, fun _ => [C_schema_letter, C_schema_Reserved, C_schema_tail], [true], none, 0, 0, fun _ _ => true, none, [], []⟩
theorem o_schema_Name : F_schema_Name.Ok prog := ⟨Is.of (by kernel_rfl) (by kernel_rfl), by kernel_rfl, hint_sb sb_ok bo_ok, trivial, trivial, fun _ => by kernel_rfl⟩
theorem c_schema_Name (N : Nat) : C_schema_Name.Ok prog N := o_schema_Name.give tb_ok hm N N (fun _ => ⟨c_schema_letter N, c_schema_Reserved N, c_schema_tail N, trivial⟩) fun a r s h => by
  have l0 := s.loop 0 q_schema_Name_0 (f_schema_Name_0 N) N fun next0 h0 => by
    exact fun c v => s.seg 0 q_schema_Name_0 [(0, .of q_schema_Name_0 next0)] ⟨h0, trivial⟩ (by kernel_rfl) (by kernel_rfl)
  exact s.main [(0, .of q_schema_Name_0 (r_schema_Name_0 N))] ⟨l0, trivial⟩ (.trans (by kernel_rfl) h)
noncomputable def F_value_core : Fn C_value_core := ⟨f204, [], ⟨[], [], sbf, bof⟩, fun _ => [], [false], none, 0, 0, fun _ _ => true, none, [], []⟩
theorem o_value_core : F_value_core.Ok prog := ⟨Is.of (by kernel_rfl) (by kernel_rfl), by kernel_rfl, hint_sb sb_ok bo_ok, trivial, trivial, fun _ => by kernel_rfl⟩
theorem c_value_core (N : Nat) : C_value_core.Ok prog N := o_value_core.give tb_ok hm N N (fun _ => trivial) fun a r s h => by
  exact s.main [] trivial (.trans (by kernel_rfl) h)
noncomputable def F_value_number_whole : Fn C_value_number_whole := ⟨f239, [], ⟨[], [], sbf, bof⟩, fun _ => [], [true], none, 0, 0, fun _ _ => true, none, [], []⟩
theorem o_value_number_whole : F_value_number_whole.Ok prog := ⟨Is.of (by kernel_rfl) (by kernel_rfl), by kernel_rfl, hint_sb sb_ok bo_ok, trivial, trivial, fun _ => by kernel_rfl⟩
theorem c_value_number_whole (N : Nat) : C_value_number_whole.Ok prog N := o_value_number_whole.give tb_ok hm N N (fun _ => trivial) fun a r s h => by
  exact s.main [] trivial (.trans (by kernel_rfl) h)
noncomputable def F_value_flag_whole : Fn C_value_flag_whole := ⟨f240, [], ⟨[], [], sbf, bof⟩, fun _ => [], [true], none, 0, 0, fun _ _ => true, none, [], []⟩
theorem o_value_flag_whole : F_value_flag_whole.Ok prog := ⟨Is.of (by kernel_rfl) (by kernel_rfl), by kernel_rfl, hint_sb sb_ok bo_ok, trivial, trivial, fun _ => by kernel_rfl⟩
theorem c_value_flag_whole (N : Nat) : C_value_flag_whole.Ok prog N := o_value_flag_whole.give tb_ok hm N N (fun _ => trivial) fun a r s h => by
  exact s.main [] trivial (.trans (by kernel_rfl) h)
noncomputable def F_real_of : Fn C_real_of := ⟨f180, [(195, .fb)], ⟨[], [], sbf, bof⟩, fun _ => [], [true], none, 0, 0, fun _ _ => true, none, [], []⟩
theorem o_real_of : F_real_of.Ok prog := ⟨Is.of (by kernel_rfl) (by kernel_rfl), by kernel_rfl, hint_sb sb_ok bo_ok, trivial, ⟨ExtIs.mk' f195 (by kernel_rfl) (by kernel_rfl) (by kernel_rfl) (by kernel_rfl) (by kernel_rfl), trivial⟩, fun _ => by kernel_rfl⟩
theorem c_real_of (N : Nat) : C_real_of.Ok prog N := o_real_of.give tb_ok hm N N (fun _ => trivial) fun a r s h => by
  exact s.main [] trivial (.trans (by kernel_rfl) h)
noncomputable def F_real_Clean : Fn C_real_Clean := ⟨f163, [], ⟨[], [], sbf, bof⟩, fun _ => [C_real_of], [true], none, 0, 0, fun _ _ => true, none, [], []⟩
theorem o_real_Clean : F_real_Clean.Ok prog := ⟨Is.of (by kernel_rfl) (by kernel_rfl), by kernel_rfl, hint_sb sb_ok bo_ok, trivial, trivial, fun _ => by kernel_rfl⟩
theorem c_real_Clean (N : Nat) : C_real_Clean.Ok prog N := o_real_Clean.give tb_ok hm N N (fun _ => ⟨c_real_of N, trivial⟩) fun a r s h => by
  exact s.main [] trivial (.trans (by kernel_rfl) h)
noncomputable def F_value_double_whole : Fn C_value_double_whole := ⟨f241, [], ⟨[], [], sbf, bof⟩, fun _ => [], [true], none, 0, 0, fun _ _ => true, none, [], []⟩
theorem o_value_double_whole : F_value_double_whole.Ok prog := ⟨Is.of (by kernel_rfl) (by kernel_rfl), by kernel_rfl, hint_sb sb_ok bo_ok, trivial, trivial, fun _ => by kernel_rfl⟩
theorem c_value_double_whole (N : Nat) : C_value_double_whole.Ok prog N := o_value_double_whole.give tb_ok hm N N (fun _ => trivial) fun a r s h => by
  exact s.main [] trivial (.trans (by kernel_rfl) h)
noncomputable def F_value_words_whole : Fn C_value_words_whole := ⟨f242, [], ⟨[], [], sbf, bof⟩, fun _ => [], [true], none, 0, 0, fun _ _ => true, none, [], []⟩
theorem o_value_words_whole : F_value_words_whole.Ok prog := ⟨Is.of (by kernel_rfl) (by kernel_rfl), by kernel_rfl, hint_sb sb_ok bo_ok, trivial, trivial, fun _ => by kernel_rfl⟩
theorem c_value_words_whole (N : Nat) : C_value_words_whole.Ok prog N := o_value_words_whole.give tb_ok hm N N (fun _ => trivial) fun a r s h => by
  exact s.main [] trivial (.trans (by kernel_rfl) h)
noncomputable def F_value_Check : Fn C_value_Check := ⟨f199, [], ⟨[], [], sbf, bof⟩, fun _ => [C_value_core, C_value_number_whole, C_value_flag_whole, C_real_Clean, C_value_double_whole, C_value_words_whole], [true], none, 0, 0, fun _ _ => true, none, [], []⟩
theorem o_value_Check : F_value_Check.Ok prog := ⟨Is.of (by kernel_rfl) (by kernel_rfl), by kernel_rfl, hint_sb sb_ok bo_ok, trivial, trivial, fun _ => by kernel_rfl⟩
theorem c_value_Check (N : Nat) : C_value_Check.Ok prog N := o_value_Check.give tb_ok hm N N (fun _ => ⟨c_value_core N, c_value_number_whole N, c_value_flag_whole N, c_real_Clean N, c_value_double_whole N, c_value_words_whole N, trivial⟩) fun a r s h => by
  exact s.main [] trivial (.trans (by kernel_rfl) h)
end
end
section
open Go.Proofs.Tryz
set_option maxRecDepth 1000000
noncomputable section
noncomputable def F_pred_Node_lacks : Fn C_pred_Node_lacks := ⟨f185, [], ⟨[], [], sbf, bof⟩, fun _ => [C_compare_Sign, C_schema_Name, C_value_Check], [true], none, 0, 0, fun _ _ => true, none, [], []⟩
theorem o_pred_Node_lacks : F_pred_Node_lacks.Ok prog := ⟨Is.of (by kernel_rfl) (by kernel_rfl), by kernel_rfl, hint_sb sb_ok bo_ok, trivial, trivial, fun _ => by kernel_rfl⟩
theorem c_pred_Node_lacks (N : Nat) : C_pred_Node_lacks.Ok prog N := o_pred_Node_lacks.give tb_ok hm N N (fun _ => ⟨c_compare_Sign N, c_schema_Name N, c_value_Check N, trivial⟩) fun a r s h => by
  exact s.main [] trivial (.trans (by kernel_rfl) h)
noncomputable def F_pred_is_v782 : Fn C_pred_is_v782 := ⟨f184, [], ⟨[], [], sbf, bof⟩, fun _ => [C_pred_Node_lacks], [true], none, 0, 0, fun _ _ => true, none, [], []⟩
theorem o_pred_is_v782 : F_pred_is_v782.Ok prog := ⟨Is.of (by kernel_rfl) (by kernel_rfl), by kernel_rfl, hint_sb sb_ok bo_ok, trivial, trivial, fun _ => by kernel_rfl⟩
theorem c_pred_is_v782 (N : Nat) : C_pred_is_v782.Ok prog N := o_pred_is_v782.give tb_ok hm N N (fun _ => ⟨c_pred_Node_lacks N, trivial⟩) fun a r s h => by
  exact s.main [] trivial (.trans (by kernel_rfl) h)
noncomputable def F_pred_is_v272 : Fn C_pred_is_v272 := ⟨f184, [], ⟨[], [], sbf, bof⟩, fun _ => [C_pred_Node_more], [true], none, 0, 0, fun _ _ => true, none, [], []⟩
theorem o_pred_is_v272 : F_pred_is_v272.Ok prog := ⟨Is.of (by kernel_rfl) (by kernel_rfl), by kernel_rfl, hint_sb sb_ok bo_ok, trivial, trivial, fun _ => by kernel_rfl⟩
theorem c_pred_is_v272 (N : Nat) : C_pred_is_v272.Ok prog N := o_pred_is_v272.give tb_ok hm N N (fun _ => ⟨c_pred_Node_more N, trivial⟩) fun a r s h => by
  exact s.main [] trivial (.trans (by kernel_rfl) h)
noncomputable def F_pred_Kids : Fn C_pred_Kids := ⟨f187, [], ⟨[], [], sbf, bof⟩, fun _ => [], [true], none, 0, 0, fun _ _ => true, none, [], []⟩
theorem o_pred_Kids : F_pred_Kids.Ok prog := ⟨Is.of (by kernel_rfl) (by kernel_rfl), by kernel_rfl, hint_sb sb_ok bo_ok, trivial, trivial, fun _ => by kernel_rfl⟩
theorem c_pred_Kids (N : Nat) : C_pred_Kids.Ok prog N := o_pred_Kids.give tb_ok hm N N (fun _ => trivial) fun a r s h => by
  exact s.main [] trivial (.trans (by kernel_rfl) h)
noncomputable def F_pred_Node_kid : Fn C_pred_Node_kid := ⟨f188, [], ⟨[], [], sbf, bof⟩, fun _ => [], [true], none, 0, 0, fun _ _ => true, none, [], []⟩
theorem o_pred_Node_kid : F_pred_Node_kid.Ok prog := ⟨Is.of (by kernel_rfl) (by kernel_rfl), by kernel_rfl, hint_sb sb_ok bo_ok, trivial, trivial, fun _ => by kernel_rfl⟩
theorem c_pred_Node_kid (N : Nat) : C_pred_Node_kid.Ok prog N := o_pred_Node_kid.give tb_ok hm N N (fun _ => trivial) fun a r s h => by
  exact s.main [] trivial (.trans (by kernel_rfl) h)
noncomputable def F_pred_checker_tree_v739 : Fn C_pred_checker_tree_v739 := ⟨f169, [], ⟨[], [], sbf, bof⟩, fun _ => [C_pred_Node_stands, C_pred_is_v782, C_pred_is_v272, C_pred_Kids, C_pred_Node_kid, C_pred_checker_tree_v739], [true], none, 1, 0, fun _ _ => true, none, [], []⟩
theorem o_pred_checker_tree_v739 : F_pred_checker_tree_v739.Ok prog := ⟨Is.of (by kernel_rfl) (by kernel_rfl), by kernel_rfl, hint_sb sb_ok bo_ok, trivial, trivial, fun _ => by kernel_rfl⟩
theorem cs_pred_checker_tree_v739 : ∀ N, C_pred_checker_tree_v739.Ok prog N
  | 0 => ⟨o_pred_checker_tree_v739.is.enters, fun a r h => by (have h : none = some r := h; cases h)⟩
  | N + 1 => by
    obtain h_pred_checker_tree_v739 := cs_pred_checker_tree_v739 N
    · exact o_pred_checker_tree_v739.give tb_ok hm N (N + 1) (fun _ => ⟨c_pred_Node_stands N, c_pred_is_v782 N, c_pred_is_v272 N, c_pred_Kids N, c_pred_Node_kid N, h_pred_checker_tree_v739, trivial⟩) fun a r s h => by
        have l0 := s.loop 0 q_pred_checker_tree_v739_0 (f_pred_checker_tree_v739_0 N) N fun next0 h0 => by
          exact fun c v => s.seg 0 q_pred_checker_tree_v739_0 [(0, .of q_pred_checker_tree_v739_0 next0)] ⟨h0, trivial⟩ (by kernel_rfl) (by kernel_rfl)
        exact s.main [(0, .of q_pred_checker_tree_v739_0 (r_pred_checker_tree_v739_0 N))] ⟨l0, trivial⟩ (.trans (by kernel_rfl) h)
theorem c_pred_checker_tree_v739 (N : Nat) : C_pred_checker_tree_v739.Ok prog N := (cs_pred_checker_tree_v739 N)
noncomputable def F_pred_Check : Fn C_pred_Check := ⟨f141, [], ⟨[], [], sbf, bof⟩, fun _ => [C_pred_checker_tree_v739], [true], none, 0, 0, fun _ _ => true, none, [], []⟩
theorem o_pred_Check : F_pred_Check.Ok prog := ⟨Is.of (by kernel_rfl) (by kernel_rfl), by kernel_rfl, hint_sb sb_ok bo_ok, trivial, trivial, fun _ => by kernel_rfl⟩
theorem c_pred_Check (N : Nat) : C_pred_Check.Ok prog N := o_pred_Check.give tb_ok hm N N (fun _ => ⟨c_pred_checker_tree_v739 N, trivial⟩) fun a r s h => by
  exact s.main [] trivial (.trans (by kernel_rfl) h)
end
end
end Go.Proofs.YtbioikdfpfafaaaGreatDoor.W
