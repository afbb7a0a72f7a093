/- The code, and what each function of it is walked to. No premise beyond what each theorem says. -/
import Derived.Test.YtfmibkkigkgecaaGreatDoorWG3
set_option linter.all false
set_option linter.unusedSimpArgs false
set_option linter.unusedVariables false
namespace Go.Proofs.YtfmibkkigkgecaaGreatDoor.W
open Go
open Go.Proofs.Tryz
set_option maxRecDepth 1000000
set_option linter.unusedSimpArgs false
set_option linter.unusedVariables false
noncomputable section
noncomputable def F_predtext_Read : Fn C_predtext_Read := ⟨f15, [], ⟨[], [], sbf, bof⟩, [C_lex_Scan, C_predtext_Parse, C_fault_New], [true, false], none, 0, 0⟩
theorem o_predtext_Read : F_predtext_Read.Ok prog := ⟨Is.of (by kernel_rfl) (by kernel_rfl), by kernel_rfl, hint_sb sb_ok bo_ok, trivial, trivial, fun _ => by kernel_rfl⟩
theorem c_predtext_Read (N : Nat) : C_predtext_Read.Ok prog N := o_predtext_Read.give tb_ok hm N N ⟨c_lex_Scan N, c_predtext_Parse N, c_fault_New N, trivial⟩ fun a r s h => by
  exact s.main [] trivial (.trans (by kernel_rfl) h)
noncomputable def F_pred_bound : Fn C_pred_bound := ⟨f91, [], ⟨[], [], sbf, bof⟩, [], [true], none, 0, 0⟩
theorem o_pred_bound : F_pred_bound.Ok prog := ⟨Is.of (by kernel_rfl) (by kernel_rfl), by kernel_rfl, hint_sb sb_ok bo_ok, trivial, trivial, fun _ => by kernel_rfl⟩
theorem c_pred_bound (N : Nat) : C_pred_bound.Ok prog N := o_pred_bound.give tb_ok hm N N trivial fun a r s h => by
  exact s.main [] trivial (.trans (by kernel_rfl) h)
noncomputable def F_lex_Literal : Fn C_lex_Literal := ⟨f60, [], ⟨[], [], sbf, bof⟩, [C_value_Check, C_lex_whole, C_lex_bits, C_lex_text], [true], none, 0, 0⟩
theorem o_lex_Literal : F_lex_Literal.Ok prog := ⟨Is.of (by kernel_rfl) (by kernel_rfl), by kernel_rfl, hint_sb sb_ok bo_ok, trivial, trivial, fun _ => by kernel_rfl⟩
theorem c_lex_Literal (N : Nat) : C_lex_Literal.Ok prog N := o_lex_Literal.give tb_ok hm N N ⟨c_value_Check N, c_lex_whole N, c_lex_bits N, c_lex_text N, trivial⟩ fun a r s h => by
  exact s.main [] trivial (.trans (by kernel_rfl) h)
noncomputable def F_pred_printer_tree_v501 : Fn C_pred_printer_tree_v501 := ⟨f36, [], ⟨[], [], sbf, bof⟩, [C_pred_printer_two_v304, C_pred_printer_within_v996, C_compare_Sign, C_lex_Literal], [true], none, 1, 0⟩
theorem o_pred_printer_tree_v501 : F_pred_printer_tree_v501.Ok prog := ⟨Is.of (by kernel_rfl) (by kernel_rfl), by kernel_rfl, hint_sb sb_ok bo_ok, trivial, trivial, fun _ => by kernel_rfl⟩

noncomputable def F_pred_printer_two_v304 : Fn C_pred_printer_two_v304 := ⟨f57, [], ⟨[], [], sbf, bof⟩, [C_pred_printer_within_v996], [true], none, 1, 0⟩
theorem o_pred_printer_two_v304 : F_pred_printer_two_v304.Ok prog := ⟨Is.of (by kernel_rfl) (by kernel_rfl), by kernel_rfl, hint_sb sb_ok bo_ok, trivial, trivial, fun _ => by kernel_rfl⟩

noncomputable def F_pred_printer_within_v996 : Fn C_pred_printer_within_v996 := ⟨f58, [], ⟨[], [], sbf, bof⟩, [C_pred_bound, C_pred_printer_tree_v501], [true], none, 1, 0⟩
theorem o_pred_printer_within_v996 : F_pred_printer_within_v996.Ok prog := ⟨Is.of (by kernel_rfl) (by kernel_rfl), by kernel_rfl, hint_sb sb_ok bo_ok, trivial, trivial, fun _ => by kernel_rfl⟩

theorem cs_pred_printer_tree_v501 : ∀ N, C_pred_printer_tree_v501.Ok prog N ∧ C_pred_printer_two_v304.Ok prog N ∧ C_pred_printer_within_v996.Ok prog N
  | 0 => ⟨⟨o_pred_printer_tree_v501.is.enters, fun a r h => by (have h : none = some r := h; cases h)⟩, ⟨o_pred_printer_two_v304.is.enters, fun a r h => by (have h : none = some r := h; cases h)⟩, ⟨o_pred_printer_within_v996.is.enters, fun a r h => by (have h : none = some r := h; cases h)⟩⟩
  | N + 1 => by
    obtain ⟨h_pred_printer_tree_v501, h_pred_printer_two_v304, h_pred_printer_within_v996⟩ := cs_pred_printer_tree_v501 N
    refine ⟨?_, ?_, ?_⟩
    · exact o_pred_printer_tree_v501.give tb_ok hm N (N + 1) ⟨h_pred_printer_two_v304, h_pred_printer_within_v996, c_compare_Sign N, c_lex_Literal N, trivial⟩ fun a r s h => by
        exact s.main [] trivial (.trans (by kernel_rfl) h)
    · exact o_pred_printer_two_v304.give tb_ok hm N (N + 1) ⟨h_pred_printer_within_v996, trivial⟩ fun a r s h => by
        exact s.main [] trivial (.trans (by kernel_rfl) h)
    · exact o_pred_printer_within_v996.give tb_ok hm N (N + 1) ⟨c_pred_bound N, h_pred_printer_tree_v501, trivial⟩ fun a r s h => by
        exact s.main [] trivial (.trans (by kernel_rfl) h)
theorem c_pred_printer_tree_v501 (N : Nat) : C_pred_printer_tree_v501.Ok prog N := (cs_pred_printer_tree_v501 N).1
noncomputable def F_pred_Print : Fn C_pred_Print := ⟨f20, [], ⟨[], [], sbf, bof⟩, [C_pred_Check, C_pred_printer_tree_v501], [true], none, 0, 0⟩
theorem o_pred_Print : F_pred_Print.Ok prog := ⟨Is.of (by kernel_rfl) (by kernel_rfl), by kernel_rfl, hint_sb sb_ok bo_ok, trivial, trivial, fun _ => by kernel_rfl⟩
theorem c_pred_Print (N : Nat) : C_pred_Print.Ok prog N := o_pred_Print.give tb_ok hm N N ⟨c_pred_Check N, c_pred_printer_tree_v501 N, trivial⟩ fun a r s h => by
  exact s.main [] trivial (.trans (by kernel_rfl) h)
noncomputable def F_fault_Code_n : Fn C_fault_Code_n := ⟨f23, [], ⟨[], [], sbf, bof⟩, [], [true], none, 0, 0⟩
theorem o_fault_Code_n : F_fault_Code_n.Ok prog := ⟨Is.of (by kernel_rfl) (by kernel_rfl), by kernel_rfl, hint_sb sb_ok bo_ok, trivial, trivial, fun _ => by kernel_rfl⟩
theorem c_fault_Code_n (N : Nat) : C_fault_Code_n.Ok prog N := o_fault_Code_n.give tb_ok hm N N trivial fun a r s h => by
  exact s.main [] trivial (.trans (by kernel_rfl) h)
noncomputable def F_fault_At_n : Fn C_fault_At_n := ⟨f18, [], ⟨[], [], sbf, bof⟩, [C_fault_find_n], [true], none, 0, 0⟩
theorem o_fault_At_n : F_fault_At_n.Ok prog := ⟨Is.of (by kernel_rfl) (by kernel_rfl), by kernel_rfl, hint_sb sb_ok bo_ok, trivial, trivial, fun _ => by kernel_rfl⟩
theorem c_fault_At_n (N : Nat) : C_fault_At_n.Ok prog N := o_fault_At_n.give tb_ok hm N N ⟨c_fault_find_n N, trivial⟩ fun a r s h => by
  exact s.main [] trivial (.trans (by kernel_rfl) h)
noncomputable def F_fault_Code_f : Fn C_fault_Code_f := ⟨f23, [], ⟨[], [], sbf, bof⟩, [C_fault_find_f], [true], none, 0, 0⟩
theorem o_fault_Code_f : F_fault_Code_f.Ok prog := ⟨Is.of (by kernel_rfl) (by kernel_rfl), by kernel_rfl, hint_sb sb_ok bo_ok, trivial, trivial, fun _ => by kernel_rfl⟩
theorem c_fault_Code_f (N : Nat) : C_fault_Code_f.Ok prog N := o_fault_Code_f.give tb_ok hm N N ⟨c_fault_find_f N, trivial⟩ fun a r s h => by
  exact s.main [] trivial (.trans (by kernel_rfl) h)
noncomputable def F_fault_At_f : Fn C_fault_At_f := ⟨f18, [], ⟨[], [], sbf, bof⟩, [C_fault_find_f], [true], none, 0, 0⟩
theorem o_fault_At_f : F_fault_At_f.Ok prog := ⟨Is.of (by kernel_rfl) (by kernel_rfl), by kernel_rfl, hint_sb sb_ok bo_ok, trivial, trivial, fun _ => by kernel_rfl⟩
theorem c_fault_At_f (N : Nat) : C_fault_At_f.Ok prog N := o_fault_At_f.give tb_ok hm N N ⟨c_fault_find_f N, trivial⟩ fun a r s h => by
  exact s.main [] trivial (.trans (by kernel_rfl) h)
noncomputable def F_law12_awake : Fn C_law12_awake := ⟨f8, [], ⟨[], [], sbf, bof⟩, [C_predtext_Read, C_pred_Print, C_fault_Code_n, C_fault_At_n, C_fault_Code_f, C_fault_At_f], [true], none, 0, 0⟩
theorem o_law12_awake : F_law12_awake.Ok prog := ⟨Is.of (by kernel_rfl) (by kernel_rfl), by kernel_rfl, hint_sb sb_ok bo_ok, trivial, trivial, fun _ => by kernel_rfl⟩
theorem c_law12_awake (N : Nat) : C_law12_awake.Ok prog N := o_law12_awake.give tb_ok hm N N ⟨c_predtext_Read N, c_pred_Print N, c_fault_Code_n N, c_fault_At_n N, c_fault_Code_f N, c_fault_At_f N, trivial⟩ fun a r s h => by
  have h : (bif Nat.ble 64 N then some true else none) = some r := h
  cases hb : Nat.ble 64 N with
  | false => rw [hb] at h; cases h
  | true =>
    have hl := Nat.le_of_ble_eq_true hb
    obtain ⟨n, rfl⟩ : ∃ n, N = n + 64 := ⟨N - 64, by omega⟩
    exact s.main [] trivial (.trans (by kernel_rfl) h)
noncomputable def F_ref10_in : Fn C_ref10_in := ⟨f49, [], ⟨[], [], sbf, bof⟩, [], [true], none, 0, 0⟩
theorem o_ref10_in : F_ref10_in.Ok prog := ⟨Is.of (by kernel_rfl) (by kernel_rfl), by kernel_rfl, hint_sb sb_ok bo_ok, trivial, trivial, fun _ => by kernel_rfl⟩
theorem c_ref10_in (N : Nat) : C_ref10_in.Ok prog N := o_ref10_in.give tb_ok hm N N trivial fun a r s h => by
  have l0 := s.loop 0 q_ref10_in_0 (f_ref10_in_0 N) N fun next0 h0 => by
    exact fun c v => s.seg 0 q_ref10_in_0 [(0, .of q_ref10_in_0 next0)] ⟨h0, trivial⟩ (by kernel_rfl) (by kernel_rfl)
  exact s.main [(0, .of q_ref10_in_0 (r_ref10_in_0 N))] ⟨l0, trivial⟩ (.trans (by kernel_rfl) h)
noncomputable def F_ref10_run : Fn C_ref10_run := ⟨f121, [], ⟨[], [], sbf, bof⟩, [C_ref10_in], [true], none, 0, 0⟩
theorem o_ref10_run : F_ref10_run.Ok prog := ⟨Is.of (by kernel_rfl) (by kernel_rfl), by kernel_rfl, hint_sb sb_ok bo_ok, trivial, trivial, fun _ => by kernel_rfl⟩
theorem c_ref10_run (N : Nat) : C_ref10_run.Ok prog N := o_ref10_run.give tb_ok hm N N ⟨c_ref10_in N, trivial⟩ fun a r s h => by
  have l0 := s.loop 0 q_ref10_run_0 (f_ref10_run_0 N) N fun next0 h0 => by
    exact fun c v => s.seg 0 q_ref10_run_0 [(0, .of q_ref10_run_0 next0)] ⟨h0, trivial⟩ (by kernel_rfl) (by kernel_rfl)
  exact s.main [(0, .of q_ref10_run_0 (r_ref10_run_0 N))] ⟨l0, trivial⟩ (.trans (by kernel_rfl) h)
noncomputable def F_ref10_worth : Fn C_ref10_worth := ⟨f122, [], ⟨[], [], sbf, bof⟩, [], [true], none, 0, 0⟩
theorem o_ref10_worth : F_ref10_worth.Ok prog := ⟨Is.of (by kernel_rfl) (by kernel_rfl), by kernel_rfl, hint_sb sb_ok bo_ok, trivial, trivial, fun _ => by kernel_rfl⟩
theorem c_ref10_worth (N : Nat) : C_ref10_worth.Ok prog N := o_ref10_worth.give tb_ok hm N N trivial fun a r s h => by
  have l0 := s.loop 0 q_ref10_worth_0 (f_ref10_worth_0 N) N fun next0 h0 => by
    exact fun c v => s.seg 0 q_ref10_worth_0 [(0, .of q_ref10_worth_0 next0)] ⟨h0, trivial⟩ (by kernel_rfl) (by kernel_rfl)
  exact s.main [(0, .of q_ref10_worth_0 (r_ref10_worth_0 N))] ⟨l0, trivial⟩ (.trans (by kernel_rfl) h)
noncomputable def F_ref04_OfText : Fn C_ref04_OfText := ⟨f123, [], ⟨[], [], sbf, bof⟩, [], [true], none, 0, 0⟩
theorem o_ref04_OfText : F_ref04_OfText.Ok prog := ⟨Is.of (by kernel_rfl) (by kernel_rfl), by kernel_rfl, hint_sb sb_ok bo_ok, trivial, trivial, fun _ => by kernel_rfl⟩
theorem c_ref04_OfText (N : Nat) : C_ref04_OfText.Ok prog N := o_ref04_OfText.give tb_ok hm N N trivial fun a r s h => by
  exact s.main [] trivial (.trans (by kernel_rfl) h)
noncomputable def F_ref10_quoted : Fn C_ref10_quoted := ⟨f84, [], ⟨[(54, 2), (66, 2), (83, 2)], [], sbf, bof⟩, [C_ref10_run, C_ref10_worth, C_ref04_OfText], [true, true, true], none, 0, 0⟩
theorem o_ref10_quoted : F_ref10_quoted.Ok prog := ⟨Is.of (by kernel_rfl) (by kernel_rfl), by kernel_rfl, hint_sb sb_ok bo_ok, trivial, trivial, fun _ => by kernel_rfl⟩
theorem c_ref10_quoted (N : Nat) : C_ref10_quoted.Ok prog N := o_ref10_quoted.give tb_ok hm N N ⟨c_ref10_run N, c_ref10_worth N, c_ref04_OfText N, trivial⟩ fun a r s h => by
  have l0 := s.loop 0 q_ref10_quoted_0 (f_ref10_quoted_0 N) N fun next0 h0 => by
    exact fun c v => s.seg 0 q_ref10_quoted_0 [(0, .of q_ref10_quoted_0 next0)] ⟨h0, trivial⟩ (by kernel_rfl) (by kernel_rfl)
  exact s.main [(0, .of q_ref10_quoted_0 (r_ref10_quoted_0 N))] ⟨l0, trivial⟩ (.trans (by kernel_rfl) h)
noncomputable def F_ref04_OfFlag : Fn C_ref04_OfFlag := ⟨f124, [], ⟨[], [], sbf, bof⟩, [], [true], none, 0, 0⟩
theorem o_ref04_OfFlag : F_ref04_OfFlag.Ok prog := ⟨Is.of (by kernel_rfl) (by kernel_rfl), by kernel_rfl, hint_sb sb_ok bo_ok, trivial, trivial, fun _ => by kernel_rfl⟩
theorem c_ref04_OfFlag (N : Nat) : C_ref04_OfFlag.Ok prog N := o_ref04_OfFlag.give tb_ok hm N N trivial fun a r s h => by
  exact s.main [] trivial (.trans (by kernel_rfl) h)
end
end Go.Proofs.YtfmibkkigkgecaaGreatDoor.W
namespace Go.Proofs.YtfmibkkigkgecaaGreatDoor.W
open Go
open Go.Proofs.Tryz
set_option maxRecDepth 1000000
set_option linter.unusedSimpArgs false
set_option linter.unusedVariables false
noncomputable section
noncomputable def F_ref06_Reserved : Fn C_ref06_Reserved := ⟨f125, [], ⟨[(5, 6)], [], sbf, bof⟩, [], [true], none, 0, 0⟩
theorem o_ref06_Reserved : F_ref06_Reserved.Ok prog := ⟨Is.of (by kernel_rfl) (by kernel_rfl), by kernel_rfl, hint_sb sb_ok bo_ok, trivial, trivial, fun _ => by kernel_rfl⟩
theorem c_ref06_Reserved (N : Nat) : C_ref06_Reserved.Ok prog N := o_ref06_Reserved.give tb_ok hm N N trivial fun a r s h => by
  have l0 := s.loop 0 q_ref06_Reserved_0 (f_ref06_Reserved_0 N) N fun next0 h0 => by
    exact fun c v => s.seg 0 q_ref06_Reserved_0 [(0, .of q_ref06_Reserved_0 next0)] ⟨h0, trivial⟩ (by kernel_rfl) (by kernel_rfl)
  exact s.main [(0, .of q_ref06_Reserved_0 (r_ref06_Reserved_0 N))] ⟨l0, trivial⟩ (.trans (by kernel_rfl) h)
noncomputable def F_ref10_word : Fn C_ref10_word := ⟨f85, [], ⟨[], [], sbf, bof⟩, [C_ref10_run, C_ref04_OfFlag, C_ref06_Reserved], [true, true, true], none, 0, 0⟩
theorem o_ref10_word : F_ref10_word.Ok prog := ⟨Is.of (by kernel_rfl) (by kernel_rfl), by kernel_rfl, hint_sb sb_ok bo_ok, trivial, trivial, fun _ => by kernel_rfl⟩
theorem c_ref10_word (N : Nat) : C_ref10_word.Ok prog N := o_ref10_word.give tb_ok hm N N ⟨c_ref10_run N, c_ref04_OfFlag N, c_ref06_Reserved N, trivial⟩ fun a r s h => by
  exact s.main [] trivial (.trans (by kernel_rfl) h)
noncomputable def F_ref09_New : Fn C_ref09_New := ⟨f88, [], ⟨[], [], sbf, bof⟩, [], [true], none, 0, 0⟩
theorem o_ref09_New : F_ref09_New.Ok prog := ⟨Is.of (by kernel_rfl) (by kernel_rfl), by kernel_rfl, hint_sb sb_ok bo_ok, trivial, trivial, fun _ => by kernel_rfl⟩
theorem c_ref09_New (N : Nat) : C_ref09_New.Ok prog N := o_ref09_New.give tb_ok hm N N trivial fun a r s h => by
  exact s.main [] trivial (.trans (by kernel_rfl) h)
noncomputable def F_ref04_OfInt : Fn C_ref04_OfInt := ⟨f126, [], ⟨[], [], sbf, bof⟩, [], [true], none, 0, 0⟩
theorem o_ref04_OfInt : F_ref04_OfInt.Ok prog := ⟨Is.of (by kernel_rfl) (by kernel_rfl), by kernel_rfl, hint_sb sb_ok bo_ok, trivial, trivial, fun _ => by kernel_rfl⟩
theorem c_ref04_OfInt (N : Nat) : C_ref04_OfInt.Ok prog N := o_ref04_OfInt.give tb_ok hm N N trivial fun a r s h => by
  exact s.main [] trivial (.trans (by kernel_rfl) h)
noncomputable def F_ref10_number : Fn C_ref10_number := ⟨f86, [], ⟨[], [], sbf, bof⟩, [C_ref10_run, C_ref04_OfInt], [true, true, true], none, 0, 0⟩
theorem o_ref10_number : F_ref10_number.Ok prog := ⟨Is.of (by kernel_rfl) (by kernel_rfl), by kernel_rfl, hint_sb sb_ok bo_ok, trivial, trivial, fun _ => by kernel_rfl⟩
theorem c_ref10_number (N : Nat) : C_ref10_number.Ok prog N := o_ref10_number.give tb_ok hm N N ⟨c_ref10_run N, c_ref04_OfInt N, trivial⟩ fun a r s h => by
  have l0 := s.loop 0 q_ref10_number_0 (f_ref10_number_0 N) N fun next0 h0 => by
    exact fun c v => s.seg 0 q_ref10_number_0 [(0, .of q_ref10_number_0 next0)] ⟨h0, trivial⟩ (by kernel_rfl) (by kernel_rfl)
  exact s.main [(0, .of q_ref10_number_0 (r_ref10_number_0 N))] ⟨l0, trivial⟩ (.trans (by kernel_rfl) h)
noncomputable def F_ref03_Exp : Fn C_ref03_Exp := ⟨f143, [], ⟨[], [], sbf, bof⟩, [], [true], none, 0, 0⟩
theorem o_ref03_Exp : F_ref03_Exp.Ok prog := ⟨Is.of (by kernel_rfl) (by kernel_rfl), by kernel_rfl, hint_sb sb_ok bo_ok, trivial, trivial, fun _ => by kernel_rfl⟩
theorem c_ref03_Exp (N : Nat) : C_ref03_Exp.Ok prog N := o_ref03_Exp.give tb_ok hm N N trivial fun a r s h => by
  exact s.main [] trivial (.trans (by kernel_rfl) h)
noncomputable def F_ref03_Frac : Fn C_ref03_Frac := ⟨f144, [], ⟨[], [], sbf, bof⟩, [], [true], none, 0, 0⟩
theorem o_ref03_Frac : F_ref03_Frac.Ok prog := ⟨Is.of (by kernel_rfl) (by kernel_rfl), by kernel_rfl, hint_sb sb_ok bo_ok, trivial, trivial, fun _ => by kernel_rfl⟩
theorem c_ref03_Frac (N : Nat) : C_ref03_Frac.Ok prog N := o_ref03_Frac.give tb_ok hm N N trivial fun a r s h => by
  exact s.main [] trivial (.trans (by kernel_rfl) h)
noncomputable def F_ref03_Kind : Fn C_ref03_Kind := ⟨f140, [], ⟨[], [], sbf, bof⟩, [C_ref03_Exp, C_ref03_Frac], [true], none, 0, 0⟩
theorem o_ref03_Kind : F_ref03_Kind.Ok prog := ⟨Is.of (by kernel_rfl) (by kernel_rfl), by kernel_rfl, hint_sb sb_ok bo_ok, trivial, trivial, fun _ => by kernel_rfl⟩
theorem c_ref03_Kind (N : Nat) : C_ref03_Kind.Ok prog N := o_ref03_Kind.give tb_ok hm N N ⟨c_ref03_Exp N, c_ref03_Frac N, trivial⟩ fun a r s h => by
  exact s.main [] trivial (.trans (by kernel_rfl) h)
noncomputable def F_ref03_Clean : Fn C_ref03_Clean := ⟨f127, [], ⟨[], [], sbf, bof⟩, [C_ref03_Kind], [true], none, 0, 0⟩
theorem o_ref03_Clean : F_ref03_Clean.Ok prog := ⟨Is.of (by kernel_rfl) (by kernel_rfl), by kernel_rfl, hint_sb sb_ok bo_ok, trivial, trivial, fun _ => by kernel_rfl⟩
theorem c_ref03_Clean (N : Nat) : C_ref03_Clean.Ok prog N := o_ref03_Clean.give tb_ok hm N N ⟨c_ref03_Kind N, trivial⟩ fun a r s h => by
  exact s.main [] trivial (.trans (by kernel_rfl) h)
noncomputable def F_ref04_OfReal : Fn C_ref04_OfReal := ⟨f128, [], ⟨[], [], sbf, bof⟩, [C_ref03_Clean], [true], none, 0, 0⟩
theorem o_ref04_OfReal : F_ref04_OfReal.Ok prog := ⟨Is.of (by kernel_rfl) (by kernel_rfl), by kernel_rfl, hint_sb sb_ok bo_ok, trivial, trivial, fun _ => by kernel_rfl⟩
theorem c_ref04_OfReal (N : Nat) : C_ref04_OfReal.Ok prog N := o_ref04_OfReal.give tb_ok hm N N ⟨c_ref03_Clean N, trivial⟩ fun a r s h => by
  exact s.main [] trivial (.trans (by kernel_rfl) h)
noncomputable def F_ref10_double : Fn C_ref10_double := ⟨f87, [], ⟨[], [], sbf, bof⟩, [C_ref10_run, C_ref10_worth, C_ref03_Clean, C_ref04_OfReal], [true, true, true], none, 0, 0⟩
theorem o_ref10_double : F_ref10_double.Ok prog := ⟨Is.of (by kernel_rfl) (by kernel_rfl), by kernel_rfl, hint_sb sb_ok bo_ok, trivial, trivial, fun _ => by kernel_rfl⟩
theorem c_ref10_double (N : Nat) : C_ref10_double.Ok prog N := o_ref10_double.give tb_ok hm N N ⟨c_ref10_run N, c_ref10_worth N, c_ref03_Clean N, c_ref04_OfReal N, trivial⟩ fun a r s h => by
  have l0 := s.loop 0 q_ref10_double_0 (f_ref10_double_0 N) N fun next0 h0 => by
    exact fun c v => s.seg 0 q_ref10_double_0 [(0, .of q_ref10_double_0 next0)] ⟨h0, trivial⟩ (by kernel_rfl) (by kernel_rfl)
  exact s.main [(0, .of q_ref10_double_0 (r_ref10_double_0 N))] ⟨l0, trivial⟩ (.trans (by kernel_rfl) h)
noncomputable def F_ref10_one : Fn C_ref10_one := ⟨f50, [], ⟨[], [], sbf, bof⟩, [C_ref10_quoted, C_ref10_in, C_ref10_word, C_ref09_New, C_ref10_number, C_ref10_double], [true, true, true], none, 0, 0⟩
theorem o_ref10_one : F_ref10_one.Ok prog := ⟨Is.of (by kernel_rfl) (by kernel_rfl), by kernel_rfl, hint_sb sb_ok bo_ok, trivial, trivial, fun _ => by kernel_rfl⟩
theorem c_ref10_one (N : Nat) : C_ref10_one.Ok prog N := o_ref10_one.give tb_ok hm N N ⟨c_ref10_quoted N, c_ref10_in N, c_ref10_word N, c_ref09_New N, c_ref10_number N, c_ref10_double N, trivial⟩ fun a r s h => by
  exact s.main [] trivial (.trans (by kernel_rfl) h)
noncomputable def F_ref10_Scan : Fn C_ref10_Scan := ⟨f33, [], ⟨[(57, 0)], [], sbf, bof⟩, [C_ref10_in, C_ref10_one], [true, true], none, 0, 0⟩
theorem o_ref10_Scan : F_ref10_Scan.Ok prog := ⟨Is.of (by kernel_rfl) (by kernel_rfl), by kernel_rfl, hint_sb sb_ok bo_ok, trivial, trivial, fun _ => by kernel_rfl⟩
theorem c_ref10_Scan (N : Nat) : C_ref10_Scan.Ok prog N := o_ref10_Scan.give tb_ok hm N N ⟨c_ref10_in N, c_ref10_one N, trivial⟩ fun a r s h => by
  have l0 := s.loop 0 q_ref10_Scan_0 (f_ref10_Scan_0 N) N fun next0 h0 => by
    exact fun c v => s.seg 0 q_ref10_Scan_0 [(0, .of q_ref10_Scan_0 next0)] ⟨h0, trivial⟩ (by kernel_rfl) (by kernel_rfl)
  exact s.main [(0, .of q_ref10_Scan_0 (r_ref10_Scan_0 N))] ⟨l0, trivial⟩ (.trans (by kernel_rfl) h)
noncomputable def F_ref12_is : Fn C_ref12_is := ⟨f44, [], ⟨[], [], sbf, bof⟩, [], [true], none, 0, 0⟩
theorem o_ref12_is : F_ref12_is.Ok prog := ⟨Is.of (by kernel_rfl) (by kernel_rfl), by kernel_rfl, hint_sb sb_ok bo_ok, trivial, trivial, fun _ => by kernel_rfl⟩
theorem c_ref12_is (N : Nat) : C_ref12_is.Ok prog N := o_ref12_is.give tb_ok hm N N trivial fun a r s h => by
  exact s.main [] trivial (.trans (by kernel_rfl) h)
noncomputable def F_ref12_place : Fn C_ref12_place := ⟨f31, [], ⟨[], [], sbf, bof⟩, [], [true], none, 0, 0⟩
theorem o_ref12_place : F_ref12_place.Ok prog := ⟨Is.of (by kernel_rfl) (by kernel_rfl), by kernel_rfl, hint_sb sb_ok bo_ok, trivial, trivial, fun _ => by kernel_rfl⟩
theorem c_ref12_place (N : Nat) : C_ref12_place.Ok prog N := o_ref12_place.give tb_ok hm N N trivial fun a r s h => by
  exact s.main [] trivial (.trans (by kernel_rfl) h)
noncomputable def F_ref12_fail : Fn C_ref12_fail := ⟨f103, [], ⟨[], [], sbf, bof⟩, [C_ref12_place], [true], none, 0, 0⟩
theorem o_ref12_fail : F_ref12_fail.Ok prog := ⟨Is.of (by kernel_rfl) (by kernel_rfl), by kernel_rfl, hint_sb sb_ok bo_ok, trivial, trivial, fun _ => by kernel_rfl⟩
theorem c_ref12_fail (N : Nat) : C_ref12_fail.Ok prog N := o_ref12_fail.give tb_ok hm N N ⟨c_ref12_place N, trivial⟩ fun a r s h => by
  exact s.main [] trivial (.trans (by kernel_rfl) h)
noncomputable def F_ref12_step : Fn C_ref12_step := ⟨f45, [], ⟨[], [], sbf, bof⟩, [], [true], none, 0, 0⟩
theorem o_ref12_step : F_ref12_step.Ok prog := ⟨Is.of (by kernel_rfl) (by kernel_rfl), by kernel_rfl, hint_sb sb_ok bo_ok, trivial, trivial, fun _ => by kernel_rfl⟩
theorem c_ref12_step (N : Nat) : C_ref12_step.Ok prog N := o_ref12_step.give tb_ok hm N N trivial fun a r s h => by
  exact s.main [] trivial (.trans (by kernel_rfl) h)
noncomputable def F_ref12_join : Fn C_ref12_join := ⟨f46, [], ⟨[(9, 3)], [], sbf, bof⟩, [], [true], none, 0, 0⟩
theorem o_ref12_join : F_ref12_join.Ok prog := ⟨Is.of (by kernel_rfl) (by kernel_rfl), by kernel_rfl, hint_sb sb_ok bo_ok, trivial, trivial, fun _ => by kernel_rfl⟩
theorem c_ref12_join (N : Nat) : C_ref12_join.Ok prog N := o_ref12_join.give tb_ok hm N N trivial fun a r s h => by
  exact s.main [] trivial (.trans (by kernel_rfl) h)
noncomputable def F_ref12_kind : Fn C_ref12_kind := ⟨f105, [], ⟨[], [], sbf, bof⟩, [], [true], none, 0, 0⟩
theorem o_ref12_kind : F_ref12_kind.Ok prog := ⟨Is.of (by kernel_rfl) (by kernel_rfl), by kernel_rfl, hint_sb sb_ok bo_ok, trivial, trivial, fun _ => by kernel_rfl⟩
theorem c_ref12_kind (N : Nat) : C_ref12_kind.Ok prog N := o_ref12_kind.give tb_ok hm N N trivial fun a r s h => by
  exact s.main [] trivial (.trans (by kernel_rfl) h)
noncomputable def F_ref12_unit : Fn C_ref12_unit := ⟨f136, [], ⟨[(16, 3), (52, 3), (74, 3), (92, 3)], [], sbf, bof⟩, [C_ref12_kind, C_ref12_step, C_ref12_is, C_ref12_fail], [true, true], none, 0, 0⟩
theorem o_ref12_unit : F_ref12_unit.Ok prog := ⟨Is.of (by kernel_rfl) (by kernel_rfl), by kernel_rfl, hint_sb sb_ok bo_ok, trivial, trivial, fun _ => by kernel_rfl⟩
theorem c_ref12_unit (N : Nat) : C_ref12_unit.Ok prog N := o_ref12_unit.give tb_ok hm N N ⟨c_ref12_kind N, c_ref12_step N, c_ref12_is N, c_ref12_fail N, trivial⟩ fun a r s h => by
  exact s.main [] trivial (.trans (by kernel_rfl) h)
noncomputable def F_ref12_sum : Fn C_ref12_sum := ⟨f104, [], ⟨[], [], sbf, bof⟩, [C_ref12_unit, C_ref12_is, C_ref12_step, C_ref12_join], [true, true], none, 0, 0⟩
theorem o_ref12_sum : F_ref12_sum.Ok prog := ⟨Is.of (by kernel_rfl) (by kernel_rfl), by kernel_rfl, hint_sb sb_ok bo_ok, trivial, trivial, fun _ => by kernel_rfl⟩
theorem c_ref12_sum (N : Nat) : C_ref12_sum.Ok prog N := o_ref12_sum.give tb_ok hm N N ⟨c_ref12_unit N, c_ref12_is N, c_ref12_step N, c_ref12_join N, trivial⟩ fun a r s h => by
  have l0 := s.loop 0 q_ref12_sum_0 (f_ref12_sum_0 N) N fun next0 h0 => by
    exact fun c v => s.seg 0 q_ref12_sum_0 [(0, .of q_ref12_sum_0 next0)] ⟨h0, trivial⟩ (by kernel_rfl) (by kernel_rfl)
  exact s.main [(0, .of q_ref12_sum_0 (r_ref12_sum_0 N))] ⟨l0, trivial⟩ (.trans (by kernel_rfl) h)
end
end Go.Proofs.YtfmibkkigkgecaaGreatDoor.W
namespace Go.Proofs.YtfmibkkigkgecaaGreatDoor.W
open Go
open Go.Proofs.Tryz
set_option maxRecDepth 1000000
set_option linter.unusedSimpArgs false
set_option linter.unusedVariables false
noncomputable section
noncomputable def F_ref05_Sign : Fn C_ref05_Sign := ⟨f137, [], ⟨[(4, 6)], [], sbf, bof⟩, [], [true], none, 0, 0⟩
theorem o_ref05_Sign : F_ref05_Sign.Ok prog := ⟨Is.of (by kernel_rfl) (by kernel_rfl), by kernel_rfl, hint_sb sb_ok bo_ok, trivial, trivial, fun _ => by kernel_rfl⟩
theorem c_ref05_Sign (N : Nat) : C_ref05_Sign.Ok prog N := o_ref05_Sign.give tb_ok hm N N trivial fun a r s h => by
  exact s.main [] trivial (.trans (by kernel_rfl) h)
noncomputable def F_ref05_Op : Fn C_ref05_Op := ⟨f106, [], ⟨[], [], sbf, bof⟩, [C_ref05_Sign], [true], none, 0, 0⟩
theorem o_ref05_Op : F_ref05_Op.Ok prog := ⟨Is.of (by kernel_rfl) (by kernel_rfl), by kernel_rfl, hint_sb sb_ok bo_ok, trivial, trivial, fun _ => by kernel_rfl⟩
theorem c_ref05_Op (N : Nat) : C_ref05_Op.Ok prog N := o_ref05_Op.give tb_ok hm N N ⟨c_ref05_Sign N, trivial⟩ fun a r s h => by
  have l0 := s.loop 0 q_ref05_Op_0 (f_ref05_Op_0 N) N fun next0 h0 => by
    exact fun c v => s.seg 0 q_ref05_Op_0 [(0, .of q_ref05_Op_0 next0)] ⟨h0, trivial⟩ (by kernel_rfl) (by kernel_rfl)
  exact s.main [(0, .of q_ref05_Op_0 (r_ref05_Op_0 N))] ⟨l0, trivial⟩ (.trans (by kernel_rfl) h)
noncomputable def F_ref12_or : Fn C_ref12_or := ⟨f29, [], ⟨[], [], sbf, bof⟩, [C_ref12_and, C_ref12_is, C_ref12_step, C_ref12_join], [true, true], none, 0, 0⟩
theorem o_ref12_or : F_ref12_or.Ok prog := ⟨Is.of (by kernel_rfl) (by kernel_rfl), by kernel_rfl, hint_sb sb_ok bo_ok, trivial, trivial, fun _ => by kernel_rfl⟩

noncomputable def F_ref12_and : Fn C_ref12_and := ⟨f43, [], ⟨[], [], sbf, bof⟩, [C_ref12_part, C_ref12_is, C_ref12_step, C_ref12_join], [true, true], none, 0, 0⟩
theorem o_ref12_and : F_ref12_and.Ok prog := ⟨Is.of (by kernel_rfl) (by kernel_rfl), by kernel_rfl, hint_sb sb_ok bo_ok, trivial, trivial, fun _ => by kernel_rfl⟩

noncomputable def F_ref12_part : Fn C_ref12_part := ⟨f70, [], ⟨[], [], sbf, bof⟩, [C_ref12_is, C_ref12_fail, C_ref12_step, C_ref12_part, C_ref12_join, C_ref12_or, C_ref12_sum, C_ref12_kind, C_ref05_Op], [true, true], none, 0, 0⟩
theorem o_ref12_part : F_ref12_part.Ok prog := ⟨Is.of (by kernel_rfl) (by kernel_rfl), by kernel_rfl, hint_sb sb_ok bo_ok, trivial, trivial, fun _ => by kernel_rfl⟩

theorem cs_ref12_or : ∀ N, C_ref12_or.Ok prog N ∧ C_ref12_and.Ok prog N ∧ C_ref12_part.Ok prog N
  | 0 => ⟨⟨o_ref12_or.is.enters, fun a r h => by (have h : none = some r := h; cases h)⟩, ⟨o_ref12_and.is.enters, fun a r h => by (have h : none = some r := h; cases h)⟩, ⟨o_ref12_part.is.enters, fun a r h => by (have h : none = some r := h; cases h)⟩⟩
  | N + 1 => by
    obtain ⟨h_ref12_or, h_ref12_and, h_ref12_part⟩ := cs_ref12_or N
    refine ⟨?_, ?_, ?_⟩
    · exact o_ref12_or.give tb_ok hm N (N + 1) ⟨h_ref12_and, c_ref12_is N, c_ref12_step N, c_ref12_join N, trivial⟩ fun a r s h => by
        have l0 := s.loop 0 q_ref12_or_0 (f_ref12_or_0 N) N fun next0 h0 => by
          exact fun c v => s.seg 0 q_ref12_or_0 [(0, .of q_ref12_or_0 next0)] ⟨h0, trivial⟩ (by kernel_rfl) (by kernel_rfl)
        exact s.main [(0, .of q_ref12_or_0 (r_ref12_or_0 N))] ⟨l0, trivial⟩ (.trans (by kernel_rfl) h)
    · exact o_ref12_and.give tb_ok hm N (N + 1) ⟨h_ref12_part, c_ref12_is N, c_ref12_step N, c_ref12_join N, trivial⟩ fun a r s h => by
        have l0 := s.loop 0 q_ref12_and_0 (f_ref12_and_0 N) N fun next0 h0 => by
          exact fun c v => s.seg 0 q_ref12_and_0 [(0, .of q_ref12_and_0 next0)] ⟨h0, trivial⟩ (by kernel_rfl) (by kernel_rfl)
        exact s.main [(0, .of q_ref12_and_0 (r_ref12_and_0 N))] ⟨l0, trivial⟩ (.trans (by kernel_rfl) h)
    · exact o_ref12_part.give tb_ok hm N (N + 1) ⟨c_ref12_is N, c_ref12_fail N, c_ref12_step N, h_ref12_part, c_ref12_join N, h_ref12_or, c_ref12_sum N, c_ref12_kind N, c_ref05_Op N, trivial⟩ fun a r s h => by
        exact s.main [] trivial (.trans (by kernel_rfl) h)
theorem c_ref12_or (N : Nat) : C_ref12_or.Ok prog N := (cs_ref12_or N).1
noncomputable def F_ref11_may : Fn C_ref11_may := ⟨f71, [], ⟨[], [], sbf, bof⟩, [], [true], none, 0, 0⟩
theorem o_ref11_may : F_ref11_may.Ok prog := ⟨Is.of (by kernel_rfl) (by kernel_rfl), by kernel_rfl, hint_sb sb_ok bo_ok, trivial, trivial, fun _ => by kernel_rfl⟩
theorem c_ref11_may (N : Nat) : C_ref11_may.Ok prog N := o_ref11_may.give tb_ok hm N N trivial fun a r s h => by
  exact s.main [] trivial (.trans (by kernel_rfl) h)
noncomputable def F_ref06_Name : Fn C_ref06_Name := ⟨f107, [], ⟨[], [], sbf, bof⟩, [C_ref06_Reserved], [true], none, 0, 0⟩
theorem o_ref06_Name : F_ref06_Name.Ok prog := ⟨Is.of (by kernel_rfl) (by kernel_rfl), by kernel_rfl, hint_sb sb_ok bo_ok, trivial, trivial, fun _ => by kernel_rfl⟩
theorem c_ref06_Name (N : Nat) : C_ref06_Name.Ok prog N := o_ref06_Name.give tb_ok hm N N ⟨c_ref06_Reserved N, trivial⟩ fun a r s h => by
  have l0 := s.loop 0 q_ref06_Name_0 (f_ref06_Name_0 N) N fun next0 h0 => by
    exact fun c v => s.seg 0 q_ref06_Name_0 [(0, .of q_ref06_Name_0 next0)] ⟨h0, trivial⟩ (by kernel_rfl) (by kernel_rfl)
  exact s.main [(0, .of q_ref06_Name_0 (r_ref06_Name_0 N))] ⟨l0, trivial⟩ (.trans (by kernel_rfl) h)
noncomputable def F_ref04_Check : Fn C_ref04_Check := ⟨f108, [], ⟨[], [], sbf, bof⟩, [C_ref03_Clean], [true], none, 0, 0⟩
theorem o_ref04_Check : F_ref04_Check.Ok prog := ⟨Is.of (by kernel_rfl) (by kernel_rfl), by kernel_rfl, hint_sb sb_ok bo_ok, trivial, trivial, fun _ => by kernel_rfl⟩
theorem c_ref04_Check (N : Nat) : C_ref04_Check.Ok prog N := o_ref04_Check.give tb_ok hm N N ⟨c_ref03_Clean N, trivial⟩ fun a r s h => by
  exact s.main [] trivial (.trans (by kernel_rfl) h)
noncomputable def F_ref11_needs : Fn C_ref11_needs := ⟨f72, [], ⟨[], [], sbf, bof⟩, [C_ref06_Name, C_ref04_Check], [true], none, 0, 0⟩
theorem o_ref11_needs : F_ref11_needs.Ok prog := ⟨Is.of (by kernel_rfl) (by kernel_rfl), by kernel_rfl, hint_sb sb_ok bo_ok, trivial, trivial, fun _ => by kernel_rfl⟩
theorem c_ref11_needs (N : Nat) : C_ref11_needs.Ok prog N := o_ref11_needs.give tb_ok hm N N ⟨c_ref06_Name N, c_ref04_Check N, trivial⟩ fun a r s h => by
  exact s.main [] trivial (.trans (by kernel_rfl) h)
noncomputable def F_ref11_Kids : Fn C_ref11_Kids := ⟨f73, [], ⟨[], [], sbf, bof⟩, [], [true], none, 0, 0⟩
theorem o_ref11_Kids : F_ref11_Kids.Ok prog := ⟨Is.of (by kernel_rfl) (by kernel_rfl), by kernel_rfl, hint_sb sb_ok bo_ok, trivial, trivial, fun _ => by kernel_rfl⟩
theorem c_ref11_Kids (N : Nat) : C_ref11_Kids.Ok prog N := o_ref11_Kids.give tb_ok hm N N trivial fun a r s h => by
  exact s.main [] trivial (.trans (by kernel_rfl) h)
noncomputable def F_ref11_kid : Fn C_ref11_kid := ⟨f74, [], ⟨[], [], sbf, bof⟩, [], [true], none, 0, 0⟩
theorem o_ref11_kid : F_ref11_kid.Ok prog := ⟨Is.of (by kernel_rfl) (by kernel_rfl), by kernel_rfl, hint_sb sb_ok bo_ok, trivial, trivial, fun _ => by kernel_rfl⟩
theorem c_ref11_kid (N : Nat) : C_ref11_kid.Ok prog N := o_ref11_kid.give tb_ok hm N N trivial fun a r s h => by
  exact s.main [] trivial (.trans (by kernel_rfl) h)
noncomputable def F_ref11_tree : Fn C_ref11_tree := ⟨f47, [], ⟨[], [], sbf, bof⟩, [C_ref11_may, C_ref11_needs, C_ref11_Kids, C_ref11_kid, C_ref11_tree], [true, true], none, 0, 0⟩
theorem o_ref11_tree : F_ref11_tree.Ok prog := ⟨Is.of (by kernel_rfl) (by kernel_rfl), by kernel_rfl, hint_sb sb_ok bo_ok, trivial, trivial, fun _ => by kernel_rfl⟩

theorem cs_ref11_tree : ∀ N, C_ref11_tree.Ok prog N
  | 0 => ⟨o_ref11_tree.is.enters, fun a r h => by (have h : none = some r := h; cases h)⟩
  | N + 1 => by
    obtain h_ref11_tree := cs_ref11_tree N
    · exact o_ref11_tree.give tb_ok hm N (N + 1) ⟨c_ref11_may N, c_ref11_needs N, c_ref11_Kids N, c_ref11_kid N, h_ref11_tree, trivial⟩ fun a r s h => by
        have l0 := s.loop 0 q_ref11_tree_0 (f_ref11_tree_0 N) N fun next0 h0 => by
          exact fun c v => s.seg 0 q_ref11_tree_0 [(0, .of q_ref11_tree_0 next0)] ⟨h0, trivial⟩ (by kernel_rfl) (by kernel_rfl)
        exact s.main [(0, .of q_ref11_tree_0 (r_ref11_tree_0 N))] ⟨l0, trivial⟩ (.trans (by kernel_rfl) h)
theorem c_ref11_tree (N : Nat) : C_ref11_tree.Ok prog N := (cs_ref11_tree N)
noncomputable def F_ref11_Check : Fn C_ref11_Check := ⟨f30, [], ⟨[], [], sbf, bof⟩, [C_ref11_tree], [true], none, 0, 0⟩
theorem o_ref11_Check : F_ref11_Check.Ok prog := ⟨Is.of (by kernel_rfl) (by kernel_rfl), by kernel_rfl, hint_sb sb_ok bo_ok, trivial, trivial, fun _ => by kernel_rfl⟩
theorem c_ref11_Check (N : Nat) : C_ref11_Check.Ok prog N := o_ref11_Check.give tb_ok hm N N ⟨c_ref11_tree N, trivial⟩ fun a r s h => by
  exact s.main [] trivial (.trans (by kernel_rfl) h)
noncomputable def F_ref12_Parse : Fn C_ref12_Parse := ⟨f11, [], ⟨[], [], sbf, bof⟩, [C_ref12_or, C_ref11_Check, C_ref12_place], [true, true, true], none, 0, 0⟩
theorem o_ref12_Parse : F_ref12_Parse.Ok prog := ⟨Is.of (by kernel_rfl) (by kernel_rfl), by kernel_rfl, hint_sb sb_ok bo_ok, trivial, trivial, fun _ => by kernel_rfl⟩
theorem c_ref12_Parse (N : Nat) : C_ref12_Parse.Ok prog N := o_ref12_Parse.give tb_ok hm N N ⟨c_ref12_or N, c_ref11_Check N, c_ref12_place N, trivial⟩ fun a r s h => by
  exact s.main [] trivial (.trans (by kernel_rfl) h)
noncomputable def F_ref12_Read : Fn C_ref12_Read := ⟨f16, [], ⟨[], [], sbf, bof⟩, [C_ref10_Scan, C_ref12_Parse], [true, true], none, 0, 0⟩
theorem o_ref12_Read : F_ref12_Read.Ok prog := ⟨Is.of (by kernel_rfl) (by kernel_rfl), by kernel_rfl, hint_sb sb_ok bo_ok, trivial, trivial, fun _ => by kernel_rfl⟩
theorem c_ref12_Read (N : Nat) : C_ref12_Read.Ok prog N := o_ref12_Read.give tb_ok hm N N ⟨c_ref10_Scan N, c_ref12_Parse N, trivial⟩ fun a r s h => by
  exact s.main [] trivial (.trans (by kernel_rfl) h)
noncomputable def F_law11_Back : Fn C_law11_Back := ⟨f13, [], ⟨[(28, 3)], [], sbf, bof⟩, [], [true], none, 0, 0⟩
theorem o_law11_Back : F_law11_Back.Ok prog := ⟨Is.of (by kernel_rfl) (by kernel_rfl), by kernel_rfl, hint_sb sb_ok bo_ok, trivial, trivial, fun _ => by kernel_rfl⟩
theorem c_law11_Back (N : Nat) : C_law11_Back.Ok prog N := o_law11_Back.give tb_ok hm N N trivial fun a r s h => by
  have l0 := s.loop 0 q_law11_Back_0 (f_law11_Back_0 N) N fun next0 h0 => by
    exact fun c v => s.seg 0 q_law11_Back_0 [(0, .of q_law11_Back_0 next0)] ⟨h0, trivial⟩ (by kernel_rfl) (by kernel_rfl)
  exact s.main [(0, .of q_law11_Back_0 (r_law11_Back_0 N))] ⟨l0, trivial⟩ (.trans (by kernel_rfl) h)
noncomputable def F_ref11_Same : Fn C_ref11_Same := ⟨f12, [], ⟨[], [], sbf, bof⟩, [], [true], none, 0, 0⟩
theorem o_ref11_Same : F_ref11_Same.Ok prog := ⟨Is.of (by kernel_rfl) (by kernel_rfl), by kernel_rfl, hint_sb sb_ok bo_ok, trivial, trivial, fun _ => by kernel_rfl⟩
theorem c_ref11_Same (N : Nat) : C_ref11_Same.Ok prog N := o_ref11_Same.give tb_ok hm N N trivial fun a r s h => by
  have l0 := s.loop 0 q_ref11_Same_0 (f_ref11_Same_0 N) N fun next0 h0 => by
    exact fun c v => s.seg 0 q_ref11_Same_0 [(0, .of q_ref11_Same_0 next0)] ⟨h0, trivial⟩ (by kernel_rfl) (by kernel_rfl)
  exact s.main [(0, .of q_ref11_Same_0 (r_ref11_Same_0 N))] ⟨l0, trivial⟩ (.trans (by kernel_rfl) h)
noncomputable def F_law09_Told_n : Fn C_law09_Told_n := ⟨f14, [], ⟨[], [], sbf, bof⟩, [C_fault_Code_n, C_fault_At_n], [true], none, 0, 0⟩
theorem o_law09_Told_n : F_law09_Told_n.Ok prog := ⟨Is.of (by kernel_rfl) (by kernel_rfl), by kernel_rfl, hint_sb sb_ok bo_ok, trivial, trivial, fun _ => by kernel_rfl⟩
theorem c_law09_Told_n (N : Nat) : C_law09_Told_n.Ok prog N := o_law09_Told_n.give tb_ok hm N N ⟨c_fault_Code_n N, c_fault_At_n N, trivial⟩ fun a r s h => by
  exact s.main [] trivial (.trans (by kernel_rfl) h)
end
end Go.Proofs.YtfmibkkigkgecaaGreatDoor.W
namespace Go.Proofs.YtfmibkkigkgecaaGreatDoor.W
open Go
open Go.Proofs.Tryz
set_option maxRecDepth 1000000
set_option linter.unusedSimpArgs false
set_option linter.unusedVariables false
noncomputable section
noncomputable def F_law09_Told_f : Fn C_law09_Told_f := ⟨f14, [], ⟨[], [], sbf, bof⟩, [C_fault_Code_f, C_fault_At_f], [true], none, 0, 0⟩
theorem o_law09_Told_f : F_law09_Told_f.Ok prog := ⟨Is.of (by kernel_rfl) (by kernel_rfl), by kernel_rfl, hint_sb sb_ok bo_ok, trivial, trivial, fun _ => by kernel_rfl⟩
theorem c_law09_Told_f (N : Nat) : C_law09_Told_f.Ok prog N := o_law09_Told_f.give tb_ok hm N N ⟨c_fault_Code_f N, c_fault_At_f N, trivial⟩ fun a r s h => by
  exact s.main [] trivial (.trans (by kernel_rfl) h)
noncomputable def F_law12_PredtextReads : Fn C_law12_PredtextReads := ⟨f4, [], ⟨[], [], sbf, bof⟩, [C_law12_awake, C_predtext_Read, C_ref12_Read, C_law11_Back, C_ref11_Same, C_law09_Told_n, C_law09_Told_f], [true], none, 0, 0⟩
theorem o_law12_PredtextReads : F_law12_PredtextReads.Ok prog := ⟨Is.of (by kernel_rfl) (by kernel_rfl), by kernel_rfl, hint_sb sb_ok bo_ok, trivial, trivial, fun _ => by kernel_rfl⟩
theorem c_law12_PredtextReads (N : Nat) : C_law12_PredtextReads.Ok prog N := o_law12_PredtextReads.give tb_ok hm N N ⟨c_law12_awake N, c_predtext_Read N, c_ref12_Read N, c_law11_Back N, c_ref11_Same N, c_law09_Told_n N, c_law09_Told_f N, trivial⟩ fun a r s h => by
  exact s.main [] trivial (.trans (by kernel_rfl) h)
end
end Go.Proofs.YtfmibkkigkgecaaGreatDoor.W
