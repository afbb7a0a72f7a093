/- The code, and what each function of it is walked to. No premise beyond what each theorem says. -/
import Derived.Test.YtbanfalnbhcknaaGreatDoorYG10
set_option linter.all false
set_option linter.unusedSimpArgs false
set_option linter.unusedVariables false
namespace Go.Proofs.YtbanfalnbhcknaaGreatDoor.Y
open Go
section
open Go.Proofs.Tryz
set_option maxRecDepth 1000000
noncomputable section
noncomputable def F_schema_Type_Field : Fn C_schema_Type_Field := ⟨f137, [], ⟨[], [], sbf, bof⟩, fun _ => [], [true, true], none, 0, 0, fun _ _ => true, none, [], []⟩
theorem o_schema_Type_Field : F_schema_Type_Field.Ok prog := ⟨Is.of (by kernel_rfl) (by kernel_rfl), by kernel_rfl, hint_sb sb_ok bo_ok, trivial, trivial, fun _ => by kernel_rfl⟩
theorem c_schema_Type_Field (N : Nat) : C_schema_Type_Field.Ok prog N := o_schema_Type_Field.give tb_ok hm N N (fun _ => trivial) fun a r s h => by
  have l0 := s.loop 0 q_schema_Type_Field_0 (f_schema_Type_Field_0 N) N fun next0 h0 => by
    exact fun c v => s.seg 0 q_schema_Type_Field_0 [(0, .of q_schema_Type_Field_0 next0)] ⟨h0, trivial⟩ (by kernel_rfl) (by kernel_rfl)
  exact s.main [(0, .of q_schema_Type_Field_0 (r_schema_Type_Field_0 N))] ⟨l0, trivial⟩ (.trans (by kernel_rfl) h)
noncomputable def F_event_Event_Value : Fn C_event_Event_Value := ⟨f228, [], ⟨[], [], sbf, bof⟩, fun _ => [C_schema_Find, C_schema_Type_Field], [true, true], none, 0, 0, fun _ _ => true, none, [], []⟩
theorem o_event_Event_Value : F_event_Event_Value.Ok prog := ⟨Is.of (by kernel_rfl) (by kernel_rfl), by kernel_rfl, hint_sb sb_ok bo_ok, trivial, trivial, fun _ => by kernel_rfl⟩
theorem c_event_Event_Value (N : Nat) : C_event_Event_Value.Ok prog N := o_event_Event_Value.give tb_ok hm N N (fun _ => ⟨c_schema_Find N, c_schema_Type_Field N, trivial⟩) fun a r s h => by
  exact s.main [] trivial (.trans (by kernel_rfl) h)
noncomputable def F_judge_of_value_v421 : Fn C_judge_of_value_v421 := ⟨f229, [], ⟨[], [], sbf, bof⟩, fun _ => [C_bind_Last, C_event_Event_Value], [true, true], none, 1, 0, fun _ _ => true, none, [], []⟩
theorem o_judge_of_value_v421 : F_judge_of_value_v421.Ok prog := ⟨Is.of (by kernel_rfl) (by kernel_rfl), by kernel_rfl, hint_sb sb_ok bo_ok, trivial, trivial, fun _ => by kernel_rfl⟩
theorem c_judge_of_value_v421 (N : Nat) : C_judge_of_value_v421.Ok prog N := o_judge_of_value_v421.give tb_ok hm N N (fun _ => ⟨c_bind_Last N, c_event_Event_Value N, trivial⟩) fun a r s h => by
  exact s.main [] trivial (.trans (by kernel_rfl) h)
noncomputable def F_judge_own_value_v282 : Fn C_judge_own_value_v282 := ⟨f227, [], ⟨[], [], sbf, bof⟩, fun _ => [C_event_Event_Value], [true, true], none, 1, 0, fun _ _ => true, none, [], []⟩
theorem o_judge_own_value_v282 : F_judge_own_value_v282.Ok prog := ⟨Is.of (by kernel_rfl) (by kernel_rfl), by kernel_rfl, hint_sb sb_ok bo_ok, trivial, trivial, fun _ => by kernel_rfl⟩
theorem c_judge_own_value_v282 (N : Nat) : C_judge_own_value_v282.Ok prog N := o_judge_own_value_v282.give tb_ok hm N N (fun _ => ⟨c_event_Event_Value N, trivial⟩) fun a r s h => by
  exact s.main [] trivial (.trans (by kernel_rfl) h)
noncomputable def F_compare_numeric : Fn C_compare_numeric := ⟨f197, [], ⟨[], [], sbf, bof⟩, fun _ => [], [true], none, 0, 0, fun _ _ => true, none, [], []⟩
theorem o_compare_numeric : F_compare_numeric.Ok prog := ⟨Is.of (by kernel_rfl) (by kernel_rfl), by kernel_rfl, hint_sb sb_ok bo_ok, trivial, trivial, fun _ => by kernel_rfl⟩
theorem c_compare_numeric (N : Nat) : C_compare_numeric.Ok prog N := o_compare_numeric.give tb_ok hm N N (fun _ => trivial) fun a r s h => by
  exact s.main [] trivial (.trans (by kernel_rfl) h)
noncomputable def F_compare_summed : Fn C_compare_summed := ⟨f236, [], ⟨[], [], sbf, bof⟩, fun _ => [C_value_Check, C_compare_numeric], [true], none, 0, 0, fun _ _ => true, none, [], []⟩
theorem o_compare_summed : F_compare_summed.Ok prog := ⟨Is.of (by kernel_rfl) (by kernel_rfl), by kernel_rfl, hint_sb sb_ok bo_ok, trivial, trivial, fun _ => by kernel_rfl⟩
theorem c_compare_summed (N : Nat) : C_compare_summed.Ok prog N := o_compare_summed.give tb_ok hm N N (fun _ => ⟨c_value_Check N, c_compare_numeric N, trivial⟩) fun a r s h => by
  exact s.main [] trivial (.trans (by kernel_rfl) h)
noncomputable def F_value_OfInt : Fn C_value_OfInt := ⟨f37, [], ⟨[], [], sbf, bof⟩, fun _ => [], [true], none, 0, 0, fun _ _ => true, none, [], []⟩
theorem o_value_OfInt : F_value_OfInt.Ok prog := ⟨Is.of (by kernel_rfl) (by kernel_rfl), by kernel_rfl, hint_sb sb_ok bo_ok, trivial, trivial, fun _ => by kernel_rfl⟩
theorem c_value_OfInt (N : Nat) : C_value_OfInt.Ok prog N := o_value_OfInt.give tb_ok hm N N (fun _ => trivial) fun a r s h => by
  exact s.main [] trivial (.trans (by kernel_rfl) h)
noncomputable def F_compare_whole : Fn C_compare_whole := ⟨f237, [], ⟨[], [], sbf, bof⟩, fun _ => [C_value_OfInt], [true, true], none, 0, 0, fun _ _ => true, none, [], []⟩
theorem o_compare_whole : F_compare_whole.Ok prog := ⟨Is.of (by kernel_rfl) (by kernel_rfl), by kernel_rfl, hint_sb sb_ok bo_ok, trivial, trivial, fun _ => by kernel_rfl⟩
theorem c_compare_whole (N : Nat) : C_compare_whole.Ok prog N := o_compare_whole.give tb_ok hm N N (fun _ => ⟨c_value_OfInt N, trivial⟩) fun a r s h => by
  exact s.main [] trivial (.trans (by kernel_rfl) h)
noncomputable def F_compare_double : Fn C_compare_double := ⟨f239, [], ⟨[], [], sbf, bof⟩, fun _ => [C_real_OfInt], [true], none, 0, 0, fun _ _ => true, none, [], []⟩
theorem o_compare_double : F_compare_double.Ok prog := ⟨Is.of (by kernel_rfl) (by kernel_rfl), by kernel_rfl, hint_sb sb_ok bo_ok, trivial, trivial, fun _ => by kernel_rfl⟩
theorem c_compare_double (N : Nat) : C_compare_double.Ok prog N := o_compare_double.give tb_ok hm N N (fun _ => ⟨c_real_OfInt N, trivial⟩) fun a r s h => by
  exact s.main [] trivial (.trans (by kernel_rfl) h)
noncomputable def F_real_Neg : Fn C_real_Neg := ⟨f240, [], ⟨[], [], sbf, bof⟩, fun _ => [C_real_Clean], [true], none, 0, 0, fun _ _ => true, none, [], []⟩
theorem o_real_Neg : F_real_Neg.Ok prog := ⟨Is.of (by kernel_rfl) (by kernel_rfl), by kernel_rfl, hint_sb sb_ok bo_ok, trivial, trivial, fun _ => by kernel_rfl⟩
theorem c_real_Neg (N : Nat) : C_real_Neg.Ok prog N := o_real_Neg.give tb_ok hm N N (fun _ => ⟨c_real_Clean N, trivial⟩) fun a r s h => by
  exact s.main [] trivial (.trans (by kernel_rfl) h)
noncomputable def F_value_OfReal : Fn C_value_OfReal := ⟨f152, [], ⟨[], [], sbf, bof⟩, fun _ => [C_real_Clean], [true], none, 0, 0, fun _ _ => true, none, [], []⟩
theorem o_value_OfReal : F_value_OfReal.Ok prog := ⟨Is.of (by kernel_rfl) (by kernel_rfl), by kernel_rfl, hint_sb sb_ok bo_ok, trivial, trivial, fun _ => by kernel_rfl⟩
theorem c_value_OfReal (N : Nat) : C_value_OfReal.Ok prog N := o_value_OfReal.give tb_ok hm N N (fun _ => ⟨c_real_Clean N, trivial⟩) fun a r s h => by
  exact s.main [] trivial (.trans (by kernel_rfl) h)
noncomputable def F_compare_Minus : Fn C_compare_Minus := ⟨f234, [], ⟨[], [], sbf, bof⟩, fun _ => [C_compare_summed, C_compare_whole, C_compare_double, C_real_Neg, C_real_Add, C_value_OfReal], [true, true], none, 0, 0, fun _ _ => true, none, [], []⟩
theorem o_compare_Minus : F_compare_Minus.Ok prog := ⟨Is.of (by kernel_rfl) (by kernel_rfl), by kernel_rfl, hint_sb sb_ok bo_ok, trivial, trivial, fun _ => by kernel_rfl⟩
theorem c_compare_Minus (N : Nat) : C_compare_Minus.Ok prog N := o_compare_Minus.give tb_ok hm N N (fun _ => ⟨c_compare_summed N, c_compare_whole N, c_compare_double N, c_real_Neg N, c_real_Add N, c_value_OfReal N, trivial⟩) fun a r s h => by
  exact s.main [] trivial (.trans (by kernel_rfl) h)
noncomputable def F_compare_Plus : Fn C_compare_Plus := ⟨f235, [], ⟨[], [], sbf, bof⟩, fun _ => [C_compare_summed, C_compare_whole, C_compare_double, C_real_Add, C_value_OfReal], [true, true], none, 0, 0, fun _ _ => true, none, [], []⟩
theorem o_compare_Plus : F_compare_Plus.Ok prog := ⟨Is.of (by kernel_rfl) (by kernel_rfl), by kernel_rfl, hint_sb sb_ok bo_ok, trivial, trivial, fun _ => by kernel_rfl⟩
theorem c_compare_Plus (N : Nat) : C_compare_Plus.Ok prog N := o_compare_Plus.give tb_ok hm N N (fun _ => ⟨c_compare_summed N, c_compare_whole N, c_compare_double N, c_real_Add N, c_value_OfReal N, trivial⟩) fun a r s h => by
  exact s.main [] trivial (.trans (by kernel_rfl) h)
noncomputable def F_judge_sum_value_v486 : Fn C_judge_sum_value_v486 := ⟨f233, [], ⟨[], [], sbf, bof⟩, fun _ => [C_judge_lit_value_v072, C_judge_of_value_v421, C_judge_own_value_v282, C_judge_sum_value_v486, C_compare_Minus, C_compare_Plus], [true, true], none, 1, 0, fun _ _ => true, none, [], []⟩
theorem o_judge_sum_value_v486 : F_judge_sum_value_v486.Ok prog := ⟨Is.of (by kernel_rfl) (by kernel_rfl), by kernel_rfl, hint_sb sb_ok bo_ok, trivial, trivial, fun _ => by kernel_rfl⟩
theorem cs_judge_sum_value_v486 : ∀ N, C_judge_sum_value_v486.Ok prog N
  | 0 => ⟨o_judge_sum_value_v486.is.enters, fun a r h => by (have h : none = some r := h; cases h)⟩
  | N + 1 => by
    obtain h_judge_sum_value_v486 := cs_judge_sum_value_v486 N
    · exact o_judge_sum_value_v486.give tb_ok hm N (N + 1) (fun _ => ⟨c_judge_lit_value_v072 N, c_judge_of_value_v421 N, c_judge_own_value_v282 N, h_judge_sum_value_v486, c_compare_Minus N, c_compare_Plus N, trivial⟩) fun a r s h => by
        exact s.main [] trivial (.trans (by kernel_rfl) h)
theorem c_judge_sum_value_v486 (N : Nat) : C_judge_sum_value_v486.Ok prog N := (cs_judge_sum_value_v486 N)
noncomputable def F_real_Equal : Fn C_real_Equal := ⟨f203, [], ⟨[], [], sbf, bof⟩, fun _ => [C_real_of], [true], none, 0, 0, fun _ _ => true, none, [], []⟩
theorem o_real_Equal : F_real_Equal.Ok prog := ⟨Is.of (by kernel_rfl) (by kernel_rfl), by kernel_rfl, hint_sb sb_ok bo_ok, trivial, trivial, fun _ => by kernel_rfl⟩
theorem c_real_Equal (N : Nat) : C_real_Equal.Ok prog N := o_real_Equal.give tb_ok hm N N (fun _ => ⟨c_real_of N, trivial⟩) fun a r s h => by
  exact s.main [] trivial (.trans (by kernel_rfl) h)
noncomputable def F_real_Less : Fn C_real_Less := ⟨f204, [], ⟨[], [], sbf, bof⟩, fun _ => [C_real_of], [true], none, 0, 0, fun _ _ => true, none, [], []⟩
theorem o_real_Less : F_real_Less.Ok prog := ⟨Is.of (by kernel_rfl) (by kernel_rfl), by kernel_rfl, hint_sb sb_ok bo_ok, trivial, trivial, fun _ => by kernel_rfl⟩
theorem c_real_Less (N : Nat) : C_real_Less.Ok prog N := o_real_Less.give tb_ok hm N N (fun _ => ⟨c_real_of N, trivial⟩) fun a r s h => by
  exact s.main [] trivial (.trans (by kernel_rfl) h)
noncomputable def F_compare_doubles : Fn C_compare_doubles := ⟨f200, [], ⟨[], [], sbf, bof⟩, fun _ => [C_real_Equal, C_real_Less], [true, true], none, 0, 0, fun _ _ => true, none, [], []⟩
theorem o_compare_doubles : F_compare_doubles.Ok prog := ⟨Is.of (by kernel_rfl) (by kernel_rfl), by kernel_rfl, hint_sb sb_ok bo_ok, trivial, trivial, fun _ => by kernel_rfl⟩
theorem c_compare_doubles (N : Nat) : C_compare_doubles.Ok prog N := o_compare_doubles.give tb_ok hm N N (fun _ => ⟨c_real_Equal N, c_real_Less N, trivial⟩) fun a r s h => by
  exact s.main [] trivial (.trans (by kernel_rfl) h)
noncomputable def F_cmp_isNaN_uint8 : Fn C_cmp_isNaN_uint8 := ⟨f214, [], ⟨[], [], sbf, bof⟩, fun _ => [], [true], none, 0, 0, fun _ _ => true, none, [], []⟩
theorem o_cmp_isNaN_uint8 : F_cmp_isNaN_uint8.Ok prog := ⟨Is.of (by kernel_rfl) (by kernel_rfl), by kernel_rfl, hint_sb sb_ok bo_ok, trivial, trivial, fun _ => by kernel_rfl⟩
theorem c_cmp_isNaN_uint8 (N : Nat) : C_cmp_isNaN_uint8.Ok prog N := o_cmp_isNaN_uint8.give tb_ok hm N N (fun _ => trivial) fun a r s h => by
  exact s.main [] trivial (.trans (by kernel_rfl) h)
noncomputable def F_cmp_Compare_uint8 : Fn C_cmp_Compare_uint8 := ⟨f207, [], ⟨[], [], sbf, bof⟩, fun _ => [C_cmp_isNaN_uint8], [true], none, 0, 0, fun _ _ => true, none, [], []⟩
theorem o_cmp_Compare_uint8 : F_cmp_Compare_uint8.Ok prog := ⟨Is.of (by kernel_rfl) (by kernel_rfl), by kernel_rfl, hint_sb sb_ok bo_ok, trivial, trivial, fun _ => by kernel_rfl⟩
theorem c_cmp_Compare_uint8 (N : Nat) : C_cmp_Compare_uint8.Ok prog N := o_cmp_Compare_uint8.give tb_ok hm N N (fun _ => ⟨c_cmp_isNaN_uint8 N, trivial⟩) fun a r s h => by
  exact s.main [] trivial (.trans (by kernel_rfl) h)
end
end
section
open Go.Proofs.Tryz
set_option maxRecDepth 1000000
noncomputable section
noncomputable def F_cmp_isNaN_int : Fn C_cmp_isNaN_int := ⟨f215, [], ⟨[], [], sbf, bof⟩, fun _ => [], [true], none, 0, 0, fun _ _ => true, none, [], []⟩
theorem o_cmp_isNaN_int : F_cmp_isNaN_int.Ok prog := ⟨Is.of (by kernel_rfl) (by kernel_rfl), by kernel_rfl, hint_sb sb_ok bo_ok, trivial, trivial, fun _ => by kernel_rfl⟩
theorem c_cmp_isNaN_int (N : Nat) : C_cmp_isNaN_int.Ok prog N := o_cmp_isNaN_int.give tb_ok hm N N (fun _ => trivial) fun a r s h => by
  exact s.main [] trivial (.trans (by kernel_rfl) h)
noncomputable def F_cmp_Compare_int : Fn C_cmp_Compare_int := ⟨f208, [], ⟨[], [], sbf, bof⟩, fun _ => [C_cmp_isNaN_int], [true], none, 0, 0, fun _ _ => true, none, [], []⟩
theorem o_cmp_Compare_int : F_cmp_Compare_int.Ok prog := ⟨Is.of (by kernel_rfl) (by kernel_rfl), by kernel_rfl, hint_sb sb_ok bo_ok, trivial, trivial, fun _ => by kernel_rfl⟩
theorem c_cmp_Compare_int (N : Nat) : C_cmp_Compare_int.Ok prog N := o_cmp_Compare_int.give tb_ok hm N N (fun _ => ⟨c_cmp_isNaN_int N, trivial⟩) fun a r s h => by
  exact s.main [] trivial (.trans (by kernel_rfl) h)
noncomputable def F_real_Rank : Fn C_real_Rank := ⟨f210, [], ⟨[], [], sbf, bof⟩, fun _ => [C_real_Clean], [true], none, 0, 0, fun _ _ => true, none, [], []⟩
theorem o_real_Rank : F_real_Rank.Ok prog := ⟨Is.of (by kernel_rfl) (by kernel_rfl), by kernel_rfl, hint_sb sb_ok bo_ok, trivial, trivial, fun _ => by kernel_rfl⟩
theorem c_real_Rank (N : Nat) : C_real_Rank.Ok prog N := o_real_Rank.give tb_ok hm N N (fun _ => ⟨c_real_Clean N, trivial⟩) fun a r s h => by
  exact s.main [] trivial (.trans (by kernel_rfl) h)
noncomputable def F_cmp_isNaN_uint64 : Fn C_cmp_isNaN_uint64 := ⟨f216, [], ⟨[], [], sbf, bof⟩, fun _ => [], [true], none, 0, 0, fun _ _ => true, none, [], []⟩
theorem o_cmp_isNaN_uint64 : F_cmp_isNaN_uint64.Ok prog := ⟨Is.of (by kernel_rfl) (by kernel_rfl), by kernel_rfl, hint_sb sb_ok bo_ok, trivial, trivial, fun _ => by kernel_rfl⟩
theorem c_cmp_isNaN_uint64 (N : Nat) : C_cmp_isNaN_uint64.Ok prog N := o_cmp_isNaN_uint64.give tb_ok hm N N (fun _ => trivial) fun a r s h => by
  exact s.main [] trivial (.trans (by kernel_rfl) h)
noncomputable def F_cmp_Compare_uint64 : Fn C_cmp_Compare_uint64 := ⟨f209, [], ⟨[], [], sbf, bof⟩, fun _ => [C_cmp_isNaN_uint64], [true], none, 0, 0, fun _ _ => true, none, [], []⟩
theorem o_cmp_Compare_uint64 : F_cmp_Compare_uint64.Ok prog := ⟨Is.of (by kernel_rfl) (by kernel_rfl), by kernel_rfl, hint_sb sb_ok bo_ok, trivial, trivial, fun _ => by kernel_rfl⟩
theorem c_cmp_Compare_uint64 (N : Nat) : C_cmp_Compare_uint64.Ok prog N := o_cmp_Compare_uint64.give tb_ok hm N N (fun _ => ⟨c_cmp_isNaN_uint64 N, trivial⟩) fun a r s h => by
  exact s.main [] trivial (.trans (by kernel_rfl) h)
noncomputable def F_cmp_isNaN_string : Fn C_cmp_isNaN_string := ⟨f120, [], ⟨[], [], sbf, bof⟩, fun _ => [], [true], none, 0, 0, fun _ _ => true, none, [], []⟩
theorem o_cmp_isNaN_string : F_cmp_isNaN_string.Ok prog := ⟨Is.of (by kernel_rfl) (by kernel_rfl), by kernel_rfl, hint_sb sb_ok bo_ok, trivial, trivial, fun _ => by kernel_rfl⟩
theorem c_cmp_isNaN_string (N : Nat) : C_cmp_isNaN_string.Ok prog N := o_cmp_isNaN_string.give tb_ok hm N N (fun _ => trivial) fun a r s h => by
  exact s.main [] trivial (.trans (by kernel_rfl) h)
noncomputable def F_cmp_Compare_string : Fn C_cmp_Compare_string := ⟨f211, [], ⟨[], [], sbf, bof⟩, fun _ => [C_cmp_isNaN_string], [true], none, 0, 0, fun _ _ => true, none, [], []⟩
theorem o_cmp_Compare_string : F_cmp_Compare_string.Ok prog := ⟨Is.of (by kernel_rfl) (by kernel_rfl), by kernel_rfl, hint_sb sb_ok bo_ok, trivial, trivial, fun _ => by kernel_rfl⟩
theorem c_cmp_Compare_string (N : Nat) : C_cmp_Compare_string.Ok prog N := o_cmp_Compare_string.give tb_ok hm N N (fun _ => ⟨c_cmp_isNaN_string N, trivial⟩) fun a r s h => by
  exact s.main [] trivial (.trans (by kernel_rfl) h)
noncomputable def F_value_Rank : Fn C_value_Rank := ⟨f202, [], ⟨[], [], sbf, bof⟩, fun _ => [C_cmp_Compare_uint8, C_cmp_Compare_int, C_real_Rank, C_cmp_Compare_uint64, C_cmp_Compare_string], [true], none, 0, 0, fun _ _ => true, none, [], []⟩
theorem o_value_Rank : F_value_Rank.Ok prog := ⟨Is.of (by kernel_rfl) (by kernel_rfl), by kernel_rfl, hint_sb sb_ok bo_ok, trivial, trivial, fun _ => by kernel_rfl⟩
theorem c_value_Rank (N : Nat) : C_value_Rank.Ok prog N := o_value_Rank.give tb_ok hm N N (fun _ => ⟨c_cmp_Compare_uint8 N, c_cmp_Compare_int N, c_real_Rank N, c_cmp_Compare_uint64 N, c_cmp_Compare_string N, trivial⟩) fun a r s h => by
  exact s.main [] trivial (.trans (by kernel_rfl) h)
noncomputable def F_compare_order : Fn C_compare_order := ⟨f198, [], ⟨[], [], sbf, bof⟩, fun _ => [C_compare_doubles, C_real_Versus, C_value_Rank], [true, true], none, 0, 0, fun _ _ => true, none, [], []⟩
theorem o_compare_order : F_compare_order.Ok prog := ⟨Is.of (by kernel_rfl) (by kernel_rfl), by kernel_rfl, hint_sb sb_ok bo_ok, trivial, trivial, fun _ => by kernel_rfl⟩
theorem c_compare_order (N : Nat) : C_compare_order.Ok prog N := o_compare_order.give tb_ok hm N N (fun _ => ⟨c_compare_doubles N, c_real_Versus N, c_value_Rank N, trivial⟩) fun a r s h => by
  exact s.main [] trivial (.trans (by kernel_rfl) h)
noncomputable def F_compare_says : Fn C_compare_says := ⟨f199, [], ⟨[], [], sbf, bof⟩, fun _ => [], [true], none, 0, 0, fun _ _ => true, none, [], []⟩
theorem o_compare_says : F_compare_says.Ok prog := ⟨Is.of (by kernel_rfl) (by kernel_rfl), by kernel_rfl, hint_sb sb_ok bo_ok, trivial, trivial, fun _ => by kernel_rfl⟩
theorem c_compare_says (N : Nat) : C_compare_says.Ok prog N := o_compare_says.give tb_ok hm N N (fun _ => trivial) fun a r s h => by
  exact s.main [] trivial (.trans (by kernel_rfl) h)
noncomputable def F_compare_Holds : Fn C_compare_Holds := ⟨f196, [], ⟨[], [], sbf, bof⟩, fun _ => [C_value_Check, C_compare_numeric, C_compare_order, C_compare_says], [true], none, 0, 0, fun _ _ => true, none, [], []⟩
theorem o_compare_Holds : F_compare_Holds.Ok prog := ⟨Is.of (by kernel_rfl) (by kernel_rfl), by kernel_rfl, hint_sb sb_ok bo_ok, trivial, trivial, fun _ => by kernel_rfl⟩
theorem c_compare_Holds (N : Nat) : C_compare_Holds.Ok prog N := o_compare_Holds.give tb_ok hm N N (fun _ => ⟨c_value_Check N, c_compare_numeric N, c_compare_order N, c_compare_says N, trivial⟩) fun a r s h => by
  exact s.main [] trivial (.trans (by kernel_rfl) h)
noncomputable def F_judge_test_holds_v233 : Fn C_judge_test_holds_v233 := ⟨f195, [], ⟨[], [], sbf, bof⟩, fun _ => [C_judge_lit_value_v072, C_judge_of_value_v421, C_judge_own_value_v282, C_judge_sum_value_v486, C_compare_Holds], [true], none, 1, 0, fun _ _ => true, none, [], []⟩
theorem o_judge_test_holds_v233 : F_judge_test_holds_v233.Ok prog := ⟨Is.of (by kernel_rfl) (by kernel_rfl), by kernel_rfl, hint_sb sb_ok bo_ok, trivial, trivial, fun _ => by kernel_rfl⟩
theorem c_judge_test_holds_v233 (N : Nat) : C_judge_test_holds_v233.Ok prog N := o_judge_test_holds_v233.give tb_ok hm N N (fun _ => ⟨c_judge_lit_value_v072 N, c_judge_of_value_v421 N, c_judge_own_value_v282 N, c_judge_sum_value_v486 N, c_compare_Holds N, trivial⟩) fun a r s h => by
  exact s.main [] trivial (.trans (by kernel_rfl) h)
noncomputable def F_judge_and_holds_v355 : Fn C_judge_and_holds_v355 := ⟨f192, [], ⟨[], [], sbf, bof⟩, fun _ => [C_judge_and_holds_v355, C_judge_not_holds_v301, C_judge_or_holds_v355, C_judge_test_holds_v233], [true], none, 1, 0, fun _ _ => true, none, [], []⟩
theorem o_judge_and_holds_v355 : F_judge_and_holds_v355.Ok prog := ⟨Is.of (by kernel_rfl) (by kernel_rfl), by kernel_rfl, hint_sb sb_ok bo_ok, trivial, trivial, fun _ => by kernel_rfl⟩
noncomputable def F_judge_not_holds_v301 : Fn C_judge_not_holds_v301 := ⟨f194, [], ⟨[], [], sbf, bof⟩, fun _ => [C_judge_and_holds_v355, C_judge_not_holds_v301, C_judge_or_holds_v355, C_judge_test_holds_v233], [true], none, 1, 0, fun _ _ => true, none, [], []⟩
theorem o_judge_not_holds_v301 : F_judge_not_holds_v301.Ok prog := ⟨Is.of (by kernel_rfl) (by kernel_rfl), by kernel_rfl, hint_sb sb_ok bo_ok, trivial, trivial, fun _ => by kernel_rfl⟩
noncomputable def F_judge_or_holds_v355 : Fn C_judge_or_holds_v355 := ⟨f193, [], ⟨[], [], sbf, bof⟩, fun _ => [C_judge_and_holds_v355, C_judge_not_holds_v301, C_judge_or_holds_v355, C_judge_test_holds_v233], [true], none, 1, 0, fun _ _ => true, none, [], []⟩
theorem o_judge_or_holds_v355 : F_judge_or_holds_v355.Ok prog := ⟨Is.of (by kernel_rfl) (by kernel_rfl), by kernel_rfl, hint_sb sb_ok bo_ok, trivial, trivial, fun _ => by kernel_rfl⟩
theorem cs_judge_and_holds_v355 : ∀ N, C_judge_and_holds_v355.Ok prog N ∧ C_judge_not_holds_v301.Ok prog N ∧ C_judge_or_holds_v355.Ok prog N
  | 0 => ⟨⟨o_judge_and_holds_v355.is.enters, fun a r h => by (have h : none = some r := h; cases h)⟩, ⟨o_judge_not_holds_v301.is.enters, fun a r h => by (have h : none = some r := h; cases h)⟩, ⟨o_judge_or_holds_v355.is.enters, fun a r h => by (have h : none = some r := h; cases h)⟩⟩
  | N + 1 => by
    obtain ⟨h_judge_and_holds_v355, h_judge_not_holds_v301, h_judge_or_holds_v355⟩ := cs_judge_and_holds_v355 N
    refine ⟨?_, ?_, ?_⟩
    · exact o_judge_and_holds_v355.give tb_ok hm N (N + 1) (fun _ => ⟨h_judge_and_holds_v355, h_judge_not_holds_v301, h_judge_or_holds_v355, c_judge_test_holds_v233 N, trivial⟩) fun a r s h => by
        exact s.main [] trivial (.trans (by kernel_rfl) h)
    · exact o_judge_not_holds_v301.give tb_ok hm N (N + 1) (fun _ => ⟨h_judge_and_holds_v355, h_judge_not_holds_v301, h_judge_or_holds_v355, c_judge_test_holds_v233 N, trivial⟩) fun a r s h => by
        exact s.main [] trivial (.trans (by kernel_rfl) h)
    · exact o_judge_or_holds_v355.give tb_ok hm N (N + 1) (fun _ => ⟨h_judge_and_holds_v355, h_judge_not_holds_v301, h_judge_or_holds_v355, c_judge_test_holds_v233 N, trivial⟩) fun a r s h => by
        exact s.main [] trivial (.trans (by kernel_rfl) h)
theorem c_judge_and_holds_v355 (N : Nat) : C_judge_and_holds_v355.Ok prog N := (cs_judge_and_holds_v355 N).1
theorem c_judge_not_holds_v301 (N : Nat) : C_judge_not_holds_v301.Ok prog N := (cs_judge_and_holds_v355 N).2.1
theorem c_judge_or_holds_v355 (N : Nat) : C_judge_or_holds_v355.Ok prog N := (cs_judge_and_holds_v355 N).2.2
noncomputable def F_judge_Holds : Fn C_judge_Holds := ⟨f14, [], ⟨[], [], sbf, bof⟩, fun _ => [C_pred_Check, C_judge_reader_truth_v501, C_judge_and_holds_v355, C_judge_not_holds_v301, C_judge_or_holds_v355, C_judge_test_holds_v233], [true], none, 0, 0, fun _ _ => true, some EqR.cls, [], []⟩
theorem o_judge_Holds : F_judge_Holds.Ok prog := ⟨Is.of (by kernel_rfl) (by kernel_rfl), by kernel_rfl, hint_sb sb_ok bo_ok, trivial, trivial, fun _ => by kernel_rfl⟩
theorem c_judge_Holds (N : Nat) : C_judge_Holds.Ok prog N := o_judge_Holds.give tb_ok hm N N (fun _ => ⟨c_pred_Check N, c_judge_reader_truth_v501 N, c_judge_and_holds_v355 N, c_judge_not_holds_v301 N, c_judge_or_holds_v355 N, c_judge_test_holds_v233 N, trivial⟩) fun a r s h => by
  exact s.main [] trivial (.trans (by kernel_rfl) h)
end
end
section
open Go.Proofs.Tryz
set_option maxRecDepth 1000000
noncomputable section
noncomputable def F_law20_JudgeAhead : Fn C_law20_JudgeAhead := ⟨f5, [], ⟨[], [], sbf, bof⟩, fun _ => [C_law11_Over, C_law20_awake, C_law20_Over, C_law11_Own, C_law06_Own, C_law07_Own, C_law19_Pairs_own, C_pred_Vars, C_judge_Holds], [true], none, 0, 0, fun _ _ => true, some EqR.cls, [], []⟩
theorem o_law20_JudgeAhead : F_law20_JudgeAhead.Ok prog := ⟨Is.of (by kernel_rfl) (by kernel_rfl), by kernel_rfl, hint_sb sb_ok bo_ok, trivial, trivial, fun _ => by kernel_rfl⟩
theorem c_law20_JudgeAhead (N : Nat) : C_law20_JudgeAhead.Ok prog N := o_law20_JudgeAhead.give tb_ok hm N N (fun _ => ⟨c_law11_Over N, c_law20_awake N, c_law20_Over N, c_law11_Own N, c_law06_Own N, c_law07_Own N, c_law19_Pairs_own N, c_pred_Vars N, c_judge_Holds N, trivial⟩) fun a r s h => by
  have l2 := s.loop 2 q_law20_JudgeAhead_2 (f_law20_JudgeAhead_2 N) N fun next2 h2 => by
    exact fun c v => s.seg 2 q_law20_JudgeAhead_2 [(2, .of q_law20_JudgeAhead_2 next2)] ⟨h2, trivial⟩ (by kernel_rfl) (by kernel_rfl)
  have l0 := s.loop 0 q_law20_JudgeAhead_0 (f_law20_JudgeAhead_0 N) N fun next0 h0 => by
    exact fun c v => s.seg 0 q_law20_JudgeAhead_0 [(0, .of q_law20_JudgeAhead_0 next0), (2, .of q_law20_JudgeAhead_2 (r_law20_JudgeAhead_2 N))] ⟨h0, l2, trivial⟩ (by kernel_rfl) (by kernel_rfl)
  exact s.main [(0, .of q_law20_JudgeAhead_0 (r_law20_JudgeAhead_0 N))] ⟨l0, trivial⟩ (.trans (by kernel_rfl) h)
end
end
end Go.Proofs.YtbanfalnbhcknaaGreatDoor.Y
