/- What the law is handed, told as what its plain text takes. No premise beyond what each theorem says. -/
import Derived.Test.YtfmibkkigkgecaaGreatDoorVG2
import Derived.Test.YtfmibkkigkgecaaGreatDoorVA2
import Derived.Test.YtfmibkkigkgecaaGreatDoorVA3
import Derived.Test.YtfmibkkigkgecaaGreatDoorVG1
set_option linter.all false
set_option linter.unusedSimpArgs false
set_option linter.unusedVariables false
namespace Go.Proofs.YtfmibkkigkgecaaGreatDoor.V
open Go
section
open Go.Proofs.Tryz
set_option maxRecDepth 1000000
theorem d_law12_PredtextBrackets_t9 {H : Type} (d : DataW H) (cs : List AV) (h : DAv prog 9 d cs) : ∃ x : List UInt8, cs = [.v (.string (bs x))] ∧ okS x := by
  obtain ⟨x, h, h1⟩ := dv_string (by kernel_rfl) h
  exact ⟨x, h, h1⟩
theorem d_law12_PredtextBrackets_t5 {H : Type} (d : DataW H) (cs : List AV) (h : DAv prog 5 d cs) : ∃ x : Int, cs = [.v (.int .u8 x)] ∧ (inK .u8) x := by
  obtain ⟨x, h, h1, h2⟩ := dv_int (k := .u8) (by kernel_rfl) h
  exact ⟨x, h, h1, h2⟩
theorem d_law12_PredtextBrackets {H : Type} (ds : List (DataW H)) (xs : List AV) (h : DAvV prog [9, 5] ds xs) :
    ∃ (s : List UInt8) (n : Int), xs = [.v (.string (bs s)), .v (.int .u8 n)] ∧ okS s ∧ (inK .u8) n := by
  obtain ⟨_, _, _, _, rfl, rfl, h0, h⟩ := dvv_cons h
  obtain ⟨_, _, _, _, rfl, rfl, h1, h⟩ := dvv_cons h
  obtain ⟨rfl, rfl⟩ := dvv_nil h
  obtain ⟨x0, rfl, k0⟩ := d_law12_PredtextBrackets_t9 _ _ h0
  obtain ⟨x1, rfl, k1⟩ := d_law12_PredtextBrackets_t5 _ _ h1
  exact ⟨x0, x1, by rw [mkE_one (by kernel_rfl), mkE_one (by kernel_rfl)], k0, k1⟩
end
theorem wall {α : Type} {f : Nat → Option α} {a : α} (h : ∀ N, f N = some a) : W f (· = a) := ⟨a, ⟨0, fun N _ => h N⟩, rfl⟩
theorem wid {ι : Type} [Lim ι] {α : Type} {f : ι → Option α} {Q : α → Prop} : W (fun i => (f i).bind fun a => some a) Q ↔ W f Q := by
  have : (fun i => (f i).bind fun a => some a) = f := by funext i; cases f i <;> rfl
  rw [this]
section
def zT : lex_Token := ⟨0, 0, [], ⟨0, 0, 0, []⟩⟩
/-- The token at a place; one of no kind behind the last. -/
def tk (y : List lex_Token) (i : Nat) : lex_Token := y[i]?.getD zT
/-- Where it stands. -/
def plc (y : List lex_Token) (e : Int) (i : Nat) : Int := match y[i]? with
  | some t => t.At
  | none => e
def isT' (y : List lex_Token) (i : Nat) (k : Int) (s : List UInt8) : Bool := ((tk y i).Kind == k) && ((tk y i).Text == s)
section
variable {N : Nat} {y : List lex_Token} {i : Nat} {e : Int}
theorem ix_at (h : i < y.length) : ix y (i : Int) = some (tk y i) ∧ y[i]? = some (tk y i) := by
  have : y[i]? = some y[i] := List.getElem?_eq_getElem h
  rw [ix_nat', tk, this]; exact ⟨rfl, rfl⟩
theorem tk_out (h : ¬ i < y.length) : tk y i = zT := by
  rw [tk, List.getElem?_eq_none (by omega)]; rfl
theorem lt_cast : ltB (i : Int) (y.length : Int) = decide (i < y.length) := by
  rw [ltB_eq]; congr 1; exact propext (by omega)
theorem next_eq : s_predtext_parser_next_v424 N y i e = some (tk y i, y, (i : Int), e) := by
  simp only [s_predtext_parser_next_v424, lt_cast]
  by_cases h : i < y.length
  · simp [h, (ix_at h).1]
  · simp [h, tk_out h, zT]
theorem place_eq : s_predtext_parser_place_v424 N y i e = some (plc y e i, y, (i : Int), e) := by
  simp only [s_predtext_parser_place_v424, lt_cast]
  by_cases h : i < y.length
  · simp only [h, decide_true, cond_true, (ix_at h).1, Option.bind_some, plc, (ix_at h).2]
  · simp [h, plc, List.getElem?_eq_none (Nat.le_of_not_lt h)]
theorem fail_eq (c : Int) : s_predtext_parser_fail_v927 N c y i e = some (c, plc y e i, y, (i : Int), e) := by
  simp only [s_predtext_parser_fail_v927, place_eq, Option.bind_some]
theorem i64_nat {n : Nat} (h : n ≤ 1000000) : i64b ((n : Int) + 1) = true := i64b_eq.2 (by omega)
theorem eat_eq (k : Int) (s : List UInt8) (hi : i ≤ 1000000) : s_predtext_parser_eat_v368 N k s y i e = some (if isT' y i k s = true then (true, y, ((i + 1 : Nat) : Int), e) else (false, y, (i : Int), e)) := by
  simp only [s_predtext_parser_eat_v368, next_eq, Option.bind_some, i64_nat hi, gd_true, isT']
  by_cases h1 : (tk y i).Kind = k
  · by_cases h2 : (tk y i).Text = s
    · simp [h1, h2]
    · simp [h1, show ((tk y i).Text == s) = false by simpa using h2]
  · simp [show ((tk y i).Kind == k) = false by simpa using h1, show ((tk y i).Kind != k) = true by simpa using h1]
theorem take_eq (k : Int) (hi : i ≤ 1000000) : s_predtext_parser_take_v128 N k y i e = some (if (tk y i).Kind = k then .inr (tk y i, y, ((i + 1 : Nat) : Int), e) else .inl (4, plc y e i, y, (i : Int), e)) := by
  simp only [s_predtext_parser_take_v128, next_eq, fail_eq, Option.bind_some, i64_nat hi, gd_true]
  by_cases h1 : (tk y i).Kind = k
  · simp [h1]
  · simp [h1, show ((tk y i).Kind != k) = true by simpa using h1]
theorem kind_lt {k : Int} (hk : k ≠ 0) (h : (tk y i).Kind = k) : i < y.length := by
  by_cases hi : i < y.length
  · exact hi
  · rw [tk_out hi] at h; exact absurd h.symm hk
theorem isT_kind {k : Int} {s : List UInt8} (h : isT' y i k s = true) : (tk y i).Kind = k ∧ (tk y i).Text = s := by
  simpa [isT'] using h
/-- A unit: where it fails, or its node and what is behind it. -/
def U (y : List lex_Token) (i : Nat) : Nat ⊕ (pred_Node × Nat) :=
  if isT' y i 4 [45] = true then
    (if (tk y (i + 1)).Val.Kind = 1 ∧ (tk y (i + 1)).Kind = 3 then .inr (⟨9, 0, [], [], ⟨(tk y (i + 1)).Val.Kind, IntKind.i64.wrap (0 - (tk y (i + 1)).Val.N), (tk y (i + 1)).Val.Bits, (tk y (i + 1)).Val.Text⟩⟩, i + 2) else .inl (i + 1))
  else if (tk y i).Kind = 3 then .inr (⟨9, 0, [], [], (tk y i).Val⟩, i + 1)
  else if (tk y i).Kind = 1 then
    (if isT' y (i + 1) 4 [46] = true then (if (tk y (i + 2)).Kind = 1 then .inr (⟨8, 0, (tk y i).Text, (tk y (i + 2)).Text, ⟨0, 0, 0, []⟩⟩, i + 3) else .inl (i + 2))
     else .inr (⟨7, 0, [], (tk y i).Text, ⟨0, 0, 0, []⟩⟩, i + 1))
  else .inl i
theorem U_ok : match U y i with
    | .inl j => i ≤ j ∧ (i ≤ y.length → j ≤ y.length)
    | .inr (_, j) => i < j ∧ j ≤ y.length := by
  unfold U
  by_cases h1 : isT' y i 4 [45] = true
  · have := kind_lt (by decide) (isT_kind h1).1
    rw [if_pos h1]
    by_cases h2 : (tk y (i + 1)).Val.Kind = 1 ∧ (tk y (i + 1)).Kind = 3
    · have := kind_lt (by decide) h2.2
      rw [if_pos h2]; simp only; omega
    · rw [if_neg h2]; simp only; omega
  rw [if_neg h1]
  by_cases h2 : (tk y i).Kind = 3
  · have := kind_lt (by decide) h2
    rw [if_pos h2]; simp only; omega
  rw [if_neg h2]
  by_cases h3 : (tk y i).Kind = 1
  · have := kind_lt (by decide) h3
    rw [if_pos h3]
    by_cases h4 : isT' y (i + 1) 4 [46] = true
    · have := kind_lt (by decide) (isT_kind h4).1
      rw [if_pos h4]
      by_cases h5 : (tk y (i + 2)).Kind = 1
      · have := kind_lt (by decide) h5
        rw [if_pos h5]; simp only; omega
      · rw [if_neg h5]; simp only; omega
    · rw [if_neg h4]; simp only; omega
  · rw [if_neg h3]; simp only; omega
/-- The program's answer. -/
abbrev PR := (Int × Int × List lex_Token × Int × Int) ⊕ (List pred_Node × List lex_Token × Int × Int)
def enP (y : List lex_Token) (e : Int) : (Int × Nat) ⊕ (List pred_Node × Nat) → PR
  | .inl (c, j) => .inl (c, plc y e j, y, (j : Int), e)
  | .inr (l, j) => .inr (l, y, (j : Int), e)
def UR (y : List lex_Token) (i : Nat) : (Int × Nat) ⊕ (List pred_Node × Nat) := match U y i with
  | .inl j => .inl (4, j)
  | .inr (n, j) => .inr ([n], j)
theorem unit_eq (hi : i ≤ 900000) : s_predtext_parser_unit_v424 N y i e = some (enP y e (UR y i)) := by
  have c2 : ((i + 1 : Nat) : Int) = (i : Int) + 1 := by omega
  simp only [s_predtext_parser_unit_v424, eat_eq (N := N) (y := y) (e := e) 4 [45] (show i ≤ 1000000 by omega), Option.bind_some, UR, U]
  by_cases h1 : isT' y i 4 [45] = true
  · simp only [if_pos h1, cond_true, next_eq, Option.bind_some]
    by_cases h2 : (tk y (i + 1)).Val.Kind = 1
    · simp only [h2, bne_self_eq_false, cond_false, take_eq (N := N) (y := y) (e := e) 3 (show i + 1 ≤ 1000000 by omega), Option.bind_some, true_and]
      by_cases h3 : (tk y (i + 1)).Kind = 3
      · simp only [if_pos h3, Sum.elim_inr, enP, h2]
      · simp only [if_neg h3, Sum.elim_inl, enP]
    · simp only [show ((tk y (i + 1)).Val.Kind != 1) = true by simpa using h2, cond_true, fail_eq, Option.bind_some, h2, false_and, if_false, enP]
  · simp only [if_neg h1, cond_false, next_eq, Option.bind_some]
    by_cases h2 : (tk y i).Kind = 3
    · simp only [h2, beq_self_eq_true, cond_true, i64_nat (show i ≤ 1000000 by omega), gd_true, if_true, enP, c2]
    · simp only [show ((tk y i).Kind == 3) = false by simpa using h2, cond_false, h2, if_false, take_eq (N := N) (y := y) (e := e) 1 (show i ≤ 1000000 by omega), Option.bind_some]
      by_cases h3 : (tk y i).Kind = 1
      · simp only [if_pos h3, Sum.elim_inr, eat_eq (N := N) (y := y) (e := e) 4 [46] (show i + 1 ≤ 1000000 by omega), Option.bind_some]
        by_cases h4 : isT' y (i + 1) 4 [46] = true
        · simp only [if_pos h4, cond_true, take_eq (N := N) (y := y) (e := e) 1 (show i + 2 ≤ 1000000 by omega), Option.bind_some]
          by_cases h5 : (tk y (i + 2)).Kind = 1
          · simp only [if_pos h5, Sum.elim_inr, enP]
          · simp only [if_neg h5, Sum.elim_inl, enP]
        · simp only [if_neg h4, cond_false, enP]
      · simp only [if_neg h3, Sum.elim_inl, enP]
end
end
section
/-- The reference's state where nothing has failed, and where something has. -/
def oS (y : List lex_Token) (e : Int) (i : Nat) : ref12_State := ⟨y, i, e, ⟨0, 0⟩⟩
def fS (y : List lex_Token) (e : Int) (c : Int) (j k : Nat) : ref12_State := ⟨y, k, e, ⟨c, plc y e j⟩⟩
section
variable {N : Nat} {y : List lex_Token} {i : Nat} {e : Int} {F : fault_Fault}
theorem ris_eq {k : Int} (hk : k ≠ 0) (s : List UInt8) : s_ref12_is N ⟨y, i, e, F⟩ k s = some (isT' y i k s) := by
  simp only [s_ref12_is, lt_cast, isT']
  by_cases h : i < y.length
  · simp only [h, decide_true, cond_true, (ix_at h).1, Option.bind_some]
    cases (tk y i).Kind == k <;> simp
  · rw [tk_out h]
    simp [h, zT, hk.symm]
theorem rkind_eq {k : Int} (hk : k ≠ 0) : s_ref12_kind N ⟨y, i, e, F⟩ k = some ((tk y i).Kind == k) := by
  simp only [s_ref12_kind, lt_cast]
  by_cases h : i < y.length
  · simp only [h, decide_true, cond_true, (ix_at h).1, Option.bind_some]
  · rw [tk_out h]
    simp [h, zT, hk.symm]
theorem rplace_eq : s_ref12_place N ⟨y, i, e, F⟩ = some (plc y e i) := by
  simp only [s_ref12_place, lt_cast]
  by_cases h : i < y.length
  · simp only [h, decide_true, cond_true, (ix_at h).1, Option.bind_some, plc, (ix_at h).2]
  · simp [h, plc, List.getElem?_eq_none (Nat.le_of_not_lt h)]
theorem rfail_eq (c : Int) : s_ref12_fail N (oS y e i) c = some (fS y e c i i) := by
  simp only [s_ref12_fail, oS, beq_self_eq_true, cond_true, rplace_eq, Option.bind_some, fS]
theorem rstep_eq (hi : i ≤ 1000000) : s_ref12_step N ⟨y, i, e, F⟩ = some ⟨y, ((i + 1 : Nat) : Int), e, F⟩ := by
  simp only [s_ref12_step, i64_nat hi, gd_true, show ((i + 1 : Nat) : Int) = (i : Int) + 1 by omega]
def enU (y : List lex_Token) (e : Int) : Nat ⊕ (pred_Node × Nat) → List pred_Node × ref12_State
  | .inl j => ([], fS y e 4 j j)
  | .inr (n, j) => ([n], oS y e j)
theorem runit_eq (hi : i ≤ 900000) : s_ref12_unit N (oS y e i) = some (enU y e (U y i)) := by
  have r1 : ∀ j : Nat, s_ref12_kind N (oS y e j) 1 = some ((tk y j).Kind == 1) := fun j => rkind_eq (by decide)
  have r3 : ∀ j : Nat, s_ref12_kind N (oS y e j) 3 = some ((tk y j).Kind == 3) := fun j => rkind_eq (by decide)
  have t4 : ∀ (j : Nat) s, s_ref12_is N (oS y e j) 4 s = some (isT' y j 4 s) := fun j s => ris_eq (by decide) s
  have st : ∀ j : Nat, j ≤ 1000000 → s_ref12_step N (oS y e j) = some (oS y e (j + 1)) := fun j hj => rstep_eq hj
  have ixo : ∀ j : Nat, j < y.length → ix (oS y e j).L (oS y e j).At = some (tk y j) := fun j hj => (ix_at hj).1
  simp only [s_ref12_unit, r3, t4, r1, Option.bind_some, U]
  by_cases h3 : (tk y i).Kind = 3
  · have hl := kind_lt (by decide) h3
    have n1 : ¬ isT' y i 4 [45] = true := fun h => by have := (isT_kind h).1; omega
    simp only [h3, beq_self_eq_true, cond_true, ixo i hl, st i (by omega), Option.bind_some, if_neg n1, if_true, enU]
  simp only [show ((tk y i).Kind == 3) = false by simpa using h3, cond_false, h3, if_false]
  by_cases h1 : isT' y i 4 [45] = true
  · simp only [h1, cond_true, st i (show i ≤ 1000000 by omega), Option.bind_some, r3, if_true]
    by_cases h2 : (tk y (i + 1)).Kind = 3
    · have hl := kind_lt (by decide) h2
      simp only [h2, beq_self_eq_true, Bool.not_true, cond_false, ixo (i + 1) hl, Option.bind_some, and_true]
      by_cases h4 : (tk y (i + 1)).Val.Kind = 1
      · simp only [h4, bne_self_eq_false, cond_false, st (i + 1) (show i + 1 ≤ 1000000 by omega), Option.bind_some, if_true, enU]
      · simp only [show ((tk y (i + 1)).Val.Kind != 1) = true by simpa using h4, cond_true, rfail_eq, Option.bind_some, h4, if_false, enU]
    · simp only [show ((tk y (i + 1)).Kind == 3) = false by simpa using h2, Bool.not_false, cond_true, rfail_eq, Option.bind_some, h2, and_false, if_false, enU]
  simp only [show isT' y i 4 [45] = false by simpa using h1, cond_false, Bool.false_eq_true, if_false]
  by_cases h2 : (tk y i).Kind = 1
  · have hl := kind_lt (by decide) h2
    simp only [h2, beq_self_eq_true, Bool.not_true, cond_false, ixo i hl, st i (show i ≤ 1000000 by omega), t4, Option.bind_some, if_true]
    by_cases h4 : isT' y (i + 1) 4 [46] = true
    · simp only [h4, Bool.not_true, cond_false, st (i + 1) (show i + 1 ≤ 1000000 by omega), r1, Option.bind_some, if_true]
      by_cases h5 : (tk y (i + 2)).Kind = 1
      · have hl2 := kind_lt (by decide) h5
        simp only [h5, beq_self_eq_true, Bool.not_true, cond_false, ixo (i + 2) hl2, ixo (i + 1 + 1) hl2, st (i + 1 + 1) (show i + 1 + 1 ≤ 1000000 by omega), Option.bind_some, if_true, enU]
      · simp only [show ((tk y (i + 1 + 1)).Kind == 1) = false by simpa using h5, Bool.not_false, cond_true, rfail_eq, Option.bind_some, h5, if_false, enU]
    · simp only [show isT' y (i + 1) 4 [46] = false by simpa using h4, Bool.not_false, cond_true, Bool.false_eq_true, if_false, enU]
  · simp only [show ((tk y i).Kind == 1) = false by simpa using h2, Bool.not_false, cond_true, rfail_eq, Option.bind_some, h2, if_false, enU]
end
end
theorem W.shift {α : Type} {f : Nat → Option α} {Q : α → Prop} (h : W (fun N => f (N + 1)) Q) : W f Q := by
  obtain ⟨a, ⟨n, hn⟩, hq⟩ := h
  refine ⟨a, ⟨n + 1, fun N hN => ?_⟩, hq⟩
  obtain ⟨M, rfl⟩ : ∃ M, N = M + 1 := ⟨N - 1, by omega⟩
  exact hn M (by omega)
theorem w_concat (ks : List (List pred_Node)) (hk : ks.length ≤ 10) (hf : ks.flatten.length ≤ 100000) : W (fun N => s_slices_Concat_pred_Node N ks) (· = .inr ks.flatten) := by
  simp only [s_slices_Concat_pred_Node]
  have pre_le : ∀ {pre rest : List (List pred_Node)}, ks = pre ++ rest → pre.flatten.length ≤ 100000 := fun h => by
    have := congrArg (fun l => l.flatten.length) h
    simp only [List.flatten_append, List.length_append] at this
    omega
  refine wf2z (l := ks) (fun pre s => s = (pre.flatten.length : Int)) [] rfl rfl (by omega) rfl ?_ ?_
  · rintro F pre k rest s hl h1 h2 h3 rfl hn
    have hp := pre_le (pre := pre ++ [k]) (rest := rest) (by simpa using hl)
    have hpl : pre.length ≤ 10 := by
      have := congrArg List.length hl
      simp only [List.length_append, List.length_cons] at this
      omega
    simp only [List.flatten_append, List.length_append, List.flatten_cons, List.flatten_nil, List.append_nil] at hp
    simp only [s_slices_Concat_pred_Node_1, h1, cond_true, h2, Option.bind_some, W.gd, W.cond, i64b_eq, ltB_iff, ltB_not, W.ret]
    refine ⟨by omega, fun h => by omega, fun _ => ⟨by omega, hn _ (by simp)⟩⟩
  · rintro F s h1 rfl
    have hp := pre_le (pre := ks) (rest := []) (by simp)
    simp only [s_slices_Concat_pred_Node_1, h1, cond_false, s_slices_Grow_pred_Node_own]
    rw [show leB 0 (ks.flatten.length : Int) = true from leB_iff.2 (by omega), show leB (80 * (ks.flatten.length : Int)) 140737488355328 = true from leB_iff.2 (by omega)]
    simp only [gd_true, Option.bind_some]
    refine wf2a (l := ks) (fun pre ys => ys = pre.flatten) [] rfl rfl (by omega) rfl ?_ ?_
    · rintro F2 pre k rest ys hl g1 g2 g3 rfl hn
      have hp := pre_le (pre := pre ++ [k]) (rest := rest) (by simpa using hl)
      simp only [List.flatten_append, List.length_append, List.flatten_cons, List.flatten_nil, List.append_nil] at hp
      simp only [s_slices_Concat_pred_Node_2, g1, cond_true, g2, Option.bind_some, W.gd, g3, Nat.ble_eq]
      exact ⟨by omega, trivial, hn _ (by simp)⟩
    · rintro F2 ys g1 rfl
      simp only [s_slices_Concat_pred_Node_2, g1, cond_false, W.ret]
theorem w_above (n : pred_Node) (ks : List (List pred_Node)) (hk : ks.length ≤ 10) (hf : ks.flatten.length ≤ 100000) : W (fun N => s_predtext_above N n ks) (· = n :: ks.flatten) := by
  simp only [s_predtext_above]
  refine W.call (w_concat ks hk hf) ?_
  rintro _ rfl
  simp only [Sum.elim_inr, W.gd, W.ret, Nat.ble_eq]
  exact ⟨by omega, trivial⟩
theorem rjoin_eq {N : Nat} (n : pred_Node) (a b : List pred_Node) (h : a.length + b.length ≤ 100000) : s_ref12_join N n a b = some (n :: (a ++ b)) := by
  simp only [s_ref12_join, show Nat.ble ((1 + List.length a) * 80) 140737488355328 = true by rw [Nat.ble_eq]; omega, show Nat.ble ((List.length a + 1 + List.length b) * 80) 140737488355328 = true by rw [Nat.ble_eq]; omega, gd_true]
abbrev RR := (Int × Nat) ⊕ (List pred_Node × Nat)
/-- Where it ends: behind what it began with, within the text, with no more nodes than tokens. -/
def okR (y : List lex_Token) (i : Nat) : RR → Prop
  | .inl (c, j) => c ≠ 0 ∧ i ≤ j ∧ j ≤ y.length
  | .inr (l, j) => i < j ∧ j ≤ y.length ∧ l.length ≤ j - i
/-- What the reference answers. -/
def rfR (y : List lex_Token) (e : Int) (i : Nat) : RR → List pred_Node × ref12_State → Prop
  | .inl (c, j), r => ∃ k, r.2 = fS y e c j k ∧ k + i ≤ 2 * y.length ∧ i ≤ k ∧ r.1.length ≤ k - i
  | .inr (l, j), r => r = (l, oS y e j)
def bn (k : Int) : pred_Node := ⟨k, 0, [], [], ⟨0, 0, 0, []⟩⟩
/-- A row of like parts, with signs between. -/
def lpG (f : Nat → RR) (sep : Nat → Option Int) : Nat → List pred_Node → Nat → RR
  | 0, l, j => .inr (l, j)
  | n + 1, l, j => match sep j with
    | some k => match f (j + 1) with
      | .inl x => .inl x
      | .inr (r, j') => lpG f sep n (bn k :: (l ++ r)) j'
    | none => .inr (l, j)
def sepS (y : List lex_Token) (j : Nat) : Option Int := if isT' y j 4 [43] = true then some 5 else if isT' y j 4 [45] = true then some 6 else none
def SU (y : List lex_Token) (i : Nat) : RR := match UR y i with
  | .inl x => .inl x
  | .inr (l, j) => lpG (UR y) (sepS y) (y.length - j) l j
theorem UR_ok {y : List lex_Token} {i : Nat} (hi : i ≤ y.length) : okR y i (UR y i) := by
  have := U_ok (y := y) (i := i)
  unfold UR
  cases h : U y i with
  | inl j => rw [h] at this; exact ⟨by decide, this.1, this.2 hi⟩
  | inr p => rw [h] at this; exact ⟨this.1, this.2, by simp; omega⟩
theorem w_unit {y : List lex_Token} {i : Nat} {e : Int} (hi : i ≤ 900000) : W (fun N => s_predtext_parser_unit_v424 N y i e) (· = enP y e (UR y i)) := wall fun N => unit_eq hi
theorem w_runit {y : List lex_Token} {i : Nat} {e : Int} (hi : i ≤ y.length) (hy : y.length ≤ 700) : W (fun N => s_ref12_unit N (oS y e i)) (rfR y e i (UR y i)) := by
  refine (wall fun N => runit_eq (show i ≤ 900000 by omega)).mp ?_
  rintro _ rfl
  have := U_ok (y := y) (i := i)
  unfold UR
  cases h : U y i with
  | inl j =>
    rw [h] at this
    have := this.2 hi
    exact ⟨j, rfl, by omega, by omega, Nat.zero_le _⟩
  | inr p => rfl
/-- A row of like parts, met by the program: each round as the parts do. -/
theorem lpG_inr {f : Nat → RR} {sep : Nat → Option Int} {n : Nat} {l : List pred_Node} {j : Nat} {k : Int} {r : List pred_Node} {j' : Nat} (hs : sep j = some k) (hf : f (j + 1) = .inr (r, j')) : lpG f sep (n + 1) l j = lpG f sep n (bn k :: (l ++ r)) j' := by
  simp only [lpG, hs, hf]
theorem lpG_inl {f : Nat → RR} {sep : Nat → Option Int} {n : Nat} {l : List pred_Node} {j : Nat} {k : Int} {x : Int × Nat} (hs : sep j = some k) (hf : f (j + 1) = .inl x) : lpG f sep (n + 1) l j = .inl x := by
  simp only [lpG, hs, hf]
theorem lpG_end {f : Nat → RR} {sep : Nat → Option Int} {n : Nat} {l : List pred_Node} {j : Nat} (hs : sep j = none) : lpG f sep n l j = .inr (l, j) := by
  cases n <;> simp only [lpG, hs]
theorem lpG_ok {y : List lex_Token} {f : Nat → RR} {sep : Nat → Option Int} {i : Nat} (hf : ∀ j, j ≤ y.length → okR y j (f j)) (hs : ∀ j k, sep j = some k → j < y.length) : ∀ (n : Nat) (l : List pred_Node) (j : Nat), i < j → j ≤ y.length → l.length ≤ j - i → okR y i (lpG f sep n l j)
  | 0, l, j, h1, h2, h3 => ⟨h1, h2, h3⟩
  | n + 1, l, j, h1, h2, h3 => by
    cases h : sep j with
    | none => rw [lpG_end h]; exact ⟨h1, h2, h3⟩
    | some k =>
      have hj := hs j k h
      have := hf (j + 1) hj
      cases g : f (j + 1) with
      | inl x =>
        rw [g] at this
        rw [lpG_inl h g]
        exact ⟨this.1, by have := this.2.1; omega, this.2.2⟩
      | inr p =>
        obtain ⟨r, j'⟩ := p
        rw [g] at this
        rw [lpG_inr h g]
        obtain ⟨g1, g2, g3⟩ := this
        exact lpG_ok hf hs n _ j' (by omega) g2 (by simp only [List.length_cons, List.length_append]; omega)
theorem sepS_lt {y : List lex_Token} {j : Nat} {k : Int} (h : sepS y j = some k) : j < y.length := by
  unfold sepS at h
  split at h
  · rename_i h1; exact kind_lt (by decide) (isT_kind h1).1
  · split at h
    · rename_i h1; exact kind_lt (by decide) (isT_kind h1).1
    · cases h
theorem SU_ok {y : List lex_Token} {i : Nat} (hi : i ≤ y.length) : okR y i (SU y i) := by
  have := UR_ok hi
  unfold SU
  cases h : UR y i with
  | inl x => rw [h] at this; exact this
  | inr p =>
    obtain ⟨l, j⟩ := p
    rw [h] at this
    exact lpG_ok (fun j hj => UR_ok hj) (fun j k hk => sepS_lt hk) _ l j this.1 this.2.1 this.2.2
theorem w_sum {y : List lex_Token} {i : Nat} {e : Int} (hi : i ≤ y.length) (hy : y.length ≤ 700) : W (fun N => s_predtext_parser_sum_v424 N y i e) (· = enP y e (SU y i)) := by
  simp only [s_predtext_parser_sum_v424]
  have h0 := UR_ok hi
  refine W.call (w_unit (show i ≤ 900000 by omega)) ?_
  rintro _ rfl
  unfold SU
  cases h : UR y i with
  | inl x => simp only [enP, Sum.elim_inl, W.ret]
  | inr p =>
    obtain ⟨l0, j0⟩ := p
    rw [h] at h0
    simp only [enP, Sum.elim_inr]
    refine W.lp4 (fun l y4 y5 y6 => ∃ j n : Nat, y4 = y ∧ y5 = (j : Int) ∧ y6 = e ∧ i < j ∧ j ≤ y.length ∧ l.length ≤ j - i ∧ y.length - j ≤ n ∧ lpG (UR y) (sepS y) n l j = lpG (UR y) (sepS y) (y.length - j0) l0 j0) (fun _ _ y5 _ => y.length - y5.toNat) ⟨j0, _, rfl, rfl, rfl, h0.1, h0.2.1, h0.2.2, Nat.le_refl _, rfl⟩ ?_
    rintro F l y4 y5 y6 ⟨j, n, rfl, rfl, rfl, g1, g2, g3, g4, g5⟩ hn
    simp only [s_predtext_parser_sum_v424_1, eat_eq (y := y4) (i := j) (e := y6) 4 [43] (show j ≤ 1000000 by omega), Option.bind_some]
    have round : ∀ k : Int, sepS y4 j = some k → ∀ (g : (ι : Type) → [Lim ι] → True), W (fun p : Nat × Nat => (s_predtext_parser_unit_v424 p.1 y4 ((j + 1 : Nat) : Int) y6).bind fun x => Sum.elim (fun u => some (Sum.inl (u.1, u.2.1, u.2.2.1, u.2.2.2.1, u.2.2.2.2))) (fun u => (s_predtext_above p.1 (bn k) [l, u.1]).bind fun ab => F p ab u.2.1 u.2.2.1 u.2.2.2) x) (· = enP y4 y6 (lpG (UR y4) (sepS y4) (y4.length - j0) l0 j0)) := fun k hs _ => by
      have hj := sepS_lt hs
      obtain ⟨n, rfl⟩ : ∃ m, n = m + 1 := ⟨n - 1, by omega⟩
      have hu := UR_ok (y := y4) (i := j + 1) hj
      refine W.call (w_unit (show j + 1 ≤ 900000 by omega)) ?_
      rintro _ rfl
      cases q : UR y4 (j + 1) with
      | inl x =>
        rw [lpG_inl hs q] at g5
        simp only [enP, Sum.elim_inl, W.ret]
        rw [← g5]
      | inr p =>
        obtain ⟨r, j'⟩ := p
        rw [lpG_inr hs q] at g5
        rw [q] at hu
        obtain ⟨u1, u2, u3⟩ := hu
        simp only [enP, Sum.elim_inr]
        refine W.call (w_above (bn k) [l, r] (by simp) (by simp; omega)) ?_
        rintro _ rfl
        exact hn _ _ _ _ ⟨j', n, rfl, rfl, rfl, by omega, u2, by simp; omega, by omega, by simpa using g5⟩ (by omega)
    by_cases h1 : isT' y4 j 4 [43] = true
    · simp only [if_pos h1, cond_true]
      exact round 5 (by simp [sepS, h1]) fun _ => trivial
    · simp only [if_neg h1, cond_false, eat_eq (y := y4) (i := j) (e := y6) 4 [45] (show j ≤ 1000000 by omega), Option.bind_some]
      by_cases h2 : isT' y4 j 4 [45] = true
      · simp only [if_pos h2, cond_true]
        exact round 6 (by simp [sepS, h1, h2]) fun _ => trivial
      · simp only [if_neg h2, cond_false, W.ret]
        rw [lpG_end (by simp [sepS, h1, h2])] at g5
        rw [← g5]
/-- What the reference's loops keep. -/
def inR (y : List lex_Token) (e : Int) (i : Nat) (f : Nat → RR) (sep : Nat → Option Int) (fin : RR) (l : List pred_Node) (y1 : List lex_Token) (y2 y3 y4 y5 : Int) : Prop :=
  y1 = y ∧ y3 = e ∧ ((y4 = 0 ∧ y5 = 0 ∧ ∃ j n : Nat, y2 = (j : Int) ∧ i < j ∧ j ≤ y.length ∧ l.length ≤ j - i ∧ y.length - j ≤ n ∧ lpG f sep n l j = fin) ∨
    (y4 ≠ 0 ∧ ∃ c j k, fin = .inl (c, j) ∧ y4 = c ∧ y5 = plc y e j ∧ y2 = (k : Nat) ∧ k + i ≤ 2 * y.length ∧ i ≤ k ∧ l.length ≤ k - i))
def meR (y : List lex_Token) (y2 y4 : Int) : Nat := if y4 = 0 then y.length + 1 - y2.toNat else 0
theorem inR_fail {y : List lex_Token} {e : Int} {i : Nat} {f : Nat → RR} {sep : Nat → Option Int} {fin : RR} {l : List pred_Node} {y1 : List lex_Token} {y2 y3 y4 y5 : Int} (h : inR y e i f sep fin l y1 y2 y3 y4 y5) (h4 : y4 ≠ 0) : rfR y e i fin (l, ⟨y1, y2, y3, ⟨y4, y5⟩⟩) := by
  obtain ⟨rfl, rfl, h | ⟨_, c, j, k, rfl, rfl, rfl, rfl, h1, h2, h3⟩⟩ := h
  · exact absurd h.1 h4
  · exact ⟨k, rfl, h1, h2, h3⟩
/-- One round of the reference's loops. -/
theorem inR_round {ι : Type} [Lim ι] {y : List lex_Token} {e : Int} {i j : Nat} {n : Nat} {f : Nat → RR} {sep : Nat → Option Int} {fin : RR} {l : List pred_Node} {k : Int} (hy : y.length ≤ 700) (hs : sep j = some k) (hj : j < y.length) (h1 : i < j) (h3 : l.length ≤ j - i) (h4 : y.length - j ≤ n + 1) (h5 : lpG f sep (n + 1) l j = fin) (hok : okR y (j + 1) (f (j + 1)))
    {sub : ι → Option (List pred_Node × ref12_State)} (hsub : W sub (rfR y e (j + 1) (f (j + 1)))) {Nx : ι → Nat} {F : ι → List pred_Node → List lex_Token → Int → Int → Int → Int → Option (List pred_Node × ref12_State)} {Q : List pred_Node × ref12_State → Prop}
    (hn : ∀ l' y1 y2 y3 y4 y5, inR y e i f sep fin l' y1 y2 y3 y4 y5 → meR y y2 y4 < meR y (j : Int) 0 → W (fun p => F p l' y1 y2 y3 y4 y5) Q) :
    W (fun p => (sub p).bind fun u => (s_ref12_join (Nx p) (bn k) l u.1).bind fun jn => F p jn u.2.L u.2.At u.2.End u.2.F.E u.2.F.At) Q := by
  refine W.bind hsub fun u hu => ?_
  cases g : f (j + 1) with
  | inl x =>
    obtain ⟨c, jf⟩ := x
    rw [g] at hu hok
    rw [lpG_inl hs g] at h5
    obtain ⟨kk, hu2, q1, q2, q3⟩ := hu
    obtain ⟨hc, _⟩ := hok
    rw [hu2]
    simp only [rjoin_eq (bn k) l u.1 (by omega), Option.bind_some, fS]
    refine hn _ _ _ _ _ _ ⟨rfl, rfl, .inr ⟨hc, c, jf, kk, h5.symm, rfl, rfl, rfl, by omega, by omega, by simp only [List.length_cons, List.length_append]; omega⟩⟩ ?_
    simp only [meR, if_neg hc, if_true]; omega
  | inr p =>
    obtain ⟨r, j'⟩ := p
    rw [g] at hu hok
    rw [lpG_inr hs g] at h5
    obtain ⟨u1, u2, u3⟩ := hok
    obtain rfl : u = (r, oS y e j') := hu
    simp only [rjoin_eq (bn k) l r (by omega), Option.bind_some, oS]
    refine hn _ _ _ _ _ _ ⟨rfl, rfl, .inl ⟨rfl, rfl, j', n, rfl, by omega, u2, by simp only [List.length_cons, List.length_append]; omega, by omega, h5⟩⟩ ?_
    simp only [meR, if_true]; omega
theorem w_rsum {y : List lex_Token} {i : Nat} {e : Int} (hi : i ≤ y.length) (hy : y.length ≤ 700) : W (fun N => s_ref12_sum N (oS y e i)) (rfR y e i (SU y i)) := by
  simp only [s_ref12_sum]
  have h0 := UR_ok hi
  refine W.call (w_runit hi hy) fun u hu => ?_
  have start : inR y e i (UR y) (sepS y) (SU y i) u.1 u.2.L u.2.At u.2.End u.2.F.E u.2.F.At := by
    unfold SU
    cases h : UR y i with
    | inl x =>
      rw [h] at h0 hu
      obtain ⟨k, hu2, h1, h2, h3⟩ := hu
      rw [hu2]
      exact ⟨rfl, rfl, .inr ⟨h0.1, x.1, x.2, k, rfl, rfl, rfl, rfl, h1, h2, h3⟩⟩
    | inr p =>
      rw [h] at h0 hu
      obtain rfl : u = (p.1, oS y e p.2) := hu
      exact ⟨rfl, rfl, .inl ⟨rfl, rfl, p.2, _, rfl, h0.1, h0.2.1, h0.2.2, Nat.le_refl _, rfl⟩⟩
  refine W.lp6 (inR y e i (UR y) (sepS y) (SU y i)) (fun _ _ y2 _ y4 _ => meR y y2 y4) start ?_
  rintro F l y1 y2 y3 y4 y5 hin hn
  simp only [s_ref12_sum_1, W.cond]
  refine ⟨fun h4 => ?_, fun h4 => W.ret.2 (inR_fail hin (by simpa using h4))⟩
  obtain ⟨rfl, rfl, ⟨rfl, rfl, j, n, rfl, g1, g2, g3, g4, g5⟩ | ⟨h5, _⟩⟩ := hin
  rotate_left
  · exact absurd (by simpa using h4) h5
  have round : ∀ k : Int, sepS y1 j = some k → W (fun p : Nat × Nat => (s_ref12_step p.1 (ref12_State.mk y1 (j : Int) y3 (fault_Fault.mk 0 0))).bind fun st => (s_ref12_unit p.1 st).bind fun u => (s_ref12_join p.1 (bn k) l u.1).bind fun jn => F p jn u.2.L u.2.At u.2.End u.2.F.E u.2.F.At) (rfR y1 y3 i (SU y1 i)) := fun k hs => by
    have hj := sepS_lt hs
    obtain ⟨n, rfl⟩ : ∃ m, n = m + 1 := ⟨n - 1, by omega⟩
    simp only [rstep_eq (y := y1) (i := j) (e := y3) (F := ⟨0, 0⟩) (show j ≤ 1000000 by omega), Option.bind_some]
    exact inR_round hy hs hj g1 g3 g4 g5 (UR_ok hj) (w_runit hj hy).lift hn
  simp only [ris_eq (y := y1) (i := j) (e := y3) (F := ⟨0, 0⟩) (show (4 : Int) ≠ 0 by decide), Option.bind_some, W.cond]
  refine ⟨fun h1 => ⟨fun h2 => ?_, fun _ => round 5 (by simp [sepS, h1])⟩, fun h1 => ⟨fun h2 => ⟨fun _ => round 6 (by simp [sepS, h1, h2]), fun h3 => ?_⟩, fun h2 => ?_⟩⟩
  · have a := (isT_kind h1).2
    have b := (isT_kind h2).2
    rw [a] at b; cases b
  · rw [h2] at h3; cases h3
  · rw [W.ret]
    rw [lpG_end (by simp [sepS, h1, h2])] at g5
    rw [← g5]; rfl
def opV (s : List UInt8) : Int := if s = [61] then 1 else if s = [33, 61] then 2 else if s = [60] then 3 else if s = [60, 61] then 4 else if s = [62] then 5 else if s = [62, 61] then 6 else 0
def sgV (v : Int) : List UInt8 := if v = 1 then [61] else if v = 2 then [33, 61] else if v = 3 then [60] else if v = 4 then [60, 61] else if v = 5 then [62] else [62, 61]
theorem opV_b (s : List UInt8) : 0 ≤ opV s ∧ opV s ≤ 6 := by
  unfold opV
  repeat' split
  all_goals omega
theorem sg_ok (s : List UInt8) (v : Int) (h1 : 1 ≤ v) (h2 : v ≤ 6) : (∀ N, s_compare_Sign N v = some (sgV v)) ∧ (∀ N, s_ref05_Sign N v = some (sgV v)) ∧ ((sgV v == s) = true ↔ opV s = v) ∧ IntKind.u8.wrap (v + 1) = v + 1 ∧ leB v 6 = true := by
  have h6 : v = 1 ∨ v = 2 ∨ v = 3 ∨ v = 4 ∨ v = 5 ∨ v = 6 := by omega
  rcases h6 with rfl | rfl | rfl | rfl | rfl | rfl
  all_goals
    refine ⟨fun N => rfl, fun N => rfl, ?_, rfl, rfl⟩
    rw [beq_iff_eq]
    constructor
    · intro h
      rw [← h]
      rfl
    · intro h
      unfold opV at h
      repeat' split at h
      all_goals first | omega | (rename_i e; rw [e]; rfl) | (rename_i e _; rw [e]; rfl)
theorem w_op (s : List UInt8) : W (fun N => s_compare_Op N s) (· = opV s) := by
  simp only [s_compare_Op]
  have hb := opV_b s
  refine W.lp1 (fun v : Int => 1 ≤ v ∧ v ≤ 7 ∧ (opV s = 0 ∨ v ≤ opV s)) (fun v => (8 - v).toNat) ⟨by omega, by omega, by omega⟩ ?_
  rintro F v ⟨h1, h2, h3⟩ hn
  by_cases h7 : v = 7
  · subst h7
    simp only [s_compare_Op_1, show leB 7 6 = false from rfl, cond_false, W.ret]; omega
  obtain ⟨g1, g2, g3, g4, g5⟩ := sg_ok s v h1 (by omega)
  simp only [s_compare_Op_1, g5, cond_true, g1, Option.bind_some, W.cond, W.ret, g4]
  refine ⟨fun h => (g3.1 h).symm, fun h => hn _ ⟨by omega, by omega, ?_⟩ (by omega)⟩
  have : opV s ≠ v := fun e => by rw [g3.2 e] at h; cases h
  omega
theorem w_rop (s : List UInt8) : W (fun N => s_ref05_Op N s) (· = opV s) := by
  simp only [s_ref05_Op]
  have hb := opV_b s
  refine W.lp1 (fun v : Int => 1 ≤ v ∧ v ≤ 7 ∧ (opV s = 0 ∨ v ≤ opV s)) (fun v => (8 - v).toNat) ⟨by omega, by omega, by omega⟩ ?_
  rintro F v ⟨h1, h2, h3⟩ hn
  by_cases h7 : v = 7
  · subst h7
    simp only [s_ref05_Op_1, show leB 7 6 = false from rfl, cond_false, W.ret]; omega
  obtain ⟨g1, g2, g3, g4, g5⟩ := sg_ok s v h1 (by omega)
  simp only [s_ref05_Op_1, g5, cond_true, g2, Option.bind_some, W.cond, W.ret, g4]
  refine ⟨fun h => (g3.1 h).symm, fun h => hn _ ⟨by omega, by omega, ?_⟩ (by omega)⟩
  have : opV s ≠ v := fun e => by rw [g3.2 e] at h; cases h
  omega
abbrev SPT := (Int → Nat → RR) × (Int → Nat → RR) × (Int → Nat → RR)
def sepK (y : List lex_Token) (s : List UInt8) (k : Int) (j : Nat) : Option Int := if isT' y j 2 s = true then some k else none
def rowS (y : List lex_Token) (f : Nat → RR) (sep : Nat → Option Int) (i : Nat) : RR := match f i with
  | .inl x => .inl x
  | .inr (l, j) => lpG f sep (y.length - j) l j
def nt : List UInt8 := [110, 111, 116]
def partS (y : List lex_Token) (p : SPT) (d : Int) (i : Nat) : RR :=
  if isT' y i 2 nt = true ∨ isT' y i 4 [40] = true then
    (if 16 ≤ d then .inl (15, i)
     else if isT' y i 2 nt = true then (match p.2.2 (d + 1) (i + 1) with
       | .inl x => .inl x
       | .inr (l, j) => .inr (bn 3 :: l, j))
     else match p.1 (d + 1) (i + 1) with
       | .inl x => .inl x
       | .inr (l, j) => if isT' y j 4 [41] = true then .inr (l, j + 1) else .inl (4, j))
  else match SU y i with
    | .inl x => .inl x
    | .inr (l, j) => if (tk y j).Kind = 4 ∧ opV (tk y j).Text ≠ 0 then (match SU y (j + 1) with
        | .inl x => .inl x
        | .inr (r, j') => .inr (⟨4, opV (tk y j).Text, [], [], ⟨0, 0, 0, []⟩⟩ :: (l ++ r), j')) else .inl (4, j)
def SPP (y : List lex_Token) : Nat → SPT
  | 0 => (fun _ i => .inl (4, i), fun _ i => .inl (4, i), fun _ i => .inl (4, i))
  | n + 1 => (fun d => rowS y ((SPP y n).2.1 d) (sepK y [111, 114] 2), fun d => rowS y ((SPP y n).2.2 d) (sepK y [97, 110, 100] 1), fun d => partS y (SPP y n) d)
theorem sepK_lt {y : List lex_Token} {s : List UInt8} {k0 : Int} {j : Nat} {k : Int} (h : sepK y s k0 j = some k) : j < y.length ∧ k = k0 ∧ isT' y j 2 s = true := by
  unfold sepK at h
  split at h
  · rename_i h1; cases h; exact ⟨kind_lt (by decide) (isT_kind h1).1, rfl, h1⟩
  · cases h
theorem rowS_ok {y : List lex_Token} {f : Nat → RR} {s : List UInt8} {k : Int} {i : Nat} (hf : ∀ j, j ≤ y.length → okR y j (f j)) (hi : i ≤ y.length) : okR y i (rowS y f (sepK y s k) i) := by
  have := hf i hi
  unfold rowS
  cases h : f i with
  | inl x => rw [h] at this; exact this
  | inr p =>
    obtain ⟨l, j⟩ := p
    rw [h] at this
    exact lpG_ok hf (fun j k hk => (sepK_lt hk).1) _ l j this.1 this.2.1 this.2.2
/-- The program's loops over a row. -/
theorem w_rowP {y : List lex_Token} {e : Int} {i : Nat} (hy : y.length ≤ 700) {f : Nat → RR} {s : List UInt8} {k : Int} (hf : ∀ j, j ≤ y.length → okR y j (f j)) {l0 : List pred_Node} {j0 : Nat} (h0 : i < j0 ∧ j0 ≤ y.length ∧ l0.length ≤ j0 - i)
    {F0 : Nat → (List pred_Node → List lex_Token → Int → Int → Option PR) → List pred_Node → List lex_Token → Int → Int → Option PR}
    (hr : ∀ (F : Nat × Nat → List pred_Node → List lex_Token → Int → Int → Option PR) (l : List pred_Node) (j : Nat) (Q : PR → Prop), j ≤ y.length → l.length ≤ 1000 → (isT' y j 2 s = false → Q (enP y e (.inr (l, j)))) →
      (isT' y j 2 s = true → j < y.length → match f (j + 1) with
        | .inl x => Q (enP y e (.inl x))
        | .inr (r, j') => r.length ≤ 1000 → W (fun p => F p (bn k :: (l ++ r)) y (j' : Int) e) Q) → W (fun p : Nat × Nat => F0 p.1 (F p) l y (j : Int) e) Q) :
    W (fun N => lp4 (F0 N) N l0 y (j0 : Int) e) (· = enP y e (lpG f (sepK y s k) (y.length - j0) l0 j0)) := by
  refine W.lp4 (N := fun N => N) (fun l y4 y5 y6 => ∃ j n : Nat, y4 = y ∧ y5 = (j : Int) ∧ y6 = e ∧ i < j ∧ j ≤ y.length ∧ l.length ≤ j - i ∧ y.length - j ≤ n ∧ lpG f (sepK y s k) n l j = lpG f (sepK y s k) (y.length - j0) l0 j0) (fun _ _ y5 _ => y.length - y5.toNat) ⟨j0, _, rfl, rfl, rfl, h0.1, h0.2.1, h0.2.2, Nat.le_refl _, rfl⟩ ?_
  rintro F l y4 y5 y6 ⟨j, n, rfl, rfl, rfl, g1, g2, g3, g4, g5⟩ hn
  refine hr F l j _ g2 (by omega) (fun h => ?_) fun h hj => ?_
  · rw [lpG_end (by simp [sepK, h])] at g5
    rw [← g5]
  · have hs : sepK y4 s k j = some k := by simp [sepK, h]
    obtain ⟨n, rfl⟩ : ∃ m, n = m + 1 := ⟨n - 1, by omega⟩
    have hu := hf (j + 1) hj
    cases q : f (j + 1) with
    | inl x =>
      rw [lpG_inl hs q] at g5
      rw [← g5]
    | inr p =>
      obtain ⟨r, j'⟩ := p
      rw [lpG_inr hs q] at g5
      rw [q] at hu
      obtain ⟨u1, u2, u3⟩ := hu
      exact fun _ => hn _ _ _ _ ⟨j', n, rfl, rfl, rfl, by omega, u2, by simp; omega, by omega, g5⟩ (by omega)
/-- The reference's loops over a row. -/
theorem w_rowR {y : List lex_Token} {e : Int} {i : Nat} (hy : y.length ≤ 700) (hi : i ≤ y.length) {f : Nat → RR} {s : List UInt8} {k : Int} (hf : ∀ j, j ≤ y.length → okR y j (f j)) {sub : Nat → Nat → Option (List pred_Node × ref12_State)} (hsub : ∀ j, j ≤ y.length → W (fun N => sub N j) (rfR y e j (f j))) {u : List pred_Node × ref12_State} (hu : rfR y e i (f i) u)
    {F0 : Nat → (List pred_Node → List lex_Token → Int → Int → Int → Int → Option (List pred_Node × ref12_State)) → List pred_Node → List lex_Token → Int → Int → Int → Int → Option (List pred_Node × ref12_State)}
    (hfail : ∀ (F : Nat × Nat → List pred_Node → List lex_Token → Int → Int → Int → Int → Option (List pred_Node × ref12_State)) l y1 y2 y3 y4 y5 (Q : List pred_Node × ref12_State → Prop), y4 ≠ 0 → Q (l, ⟨y1, y2, y3, ⟨y4, y5⟩⟩) → W (fun p : Nat × Nat => F0 p.1 (F p) l y1 y2 y3 y4 y5) Q)
    (hr : ∀ (F : Nat × Nat → List pred_Node → List lex_Token → Int → Int → Int → Int → Option (List pred_Node × ref12_State)) (l : List pred_Node) (j : Nat) (Q : List pred_Node × ref12_State → Prop), j ≤ y.length → (isT' y j 2 s = false → Q (l, oS y e j)) →
      (isT' y j 2 s = true → W (fun p : Nat × Nat => (sub p.1 (j + 1)).bind fun u => (s_ref12_join p.1 (bn k) l u.1).bind fun jn => F p jn u.2.L u.2.At u.2.End u.2.F.E u.2.F.At) Q) → W (fun p : Nat × Nat => F0 p.1 (F p) l y (j : Int) e 0 0) Q) :
    W (fun N => lp6 (F0 N) N u.1 u.2.L u.2.At u.2.End u.2.F.E u.2.F.At) (rfR y e i (rowS y f (sepK y s k) i)) := by
  have h0 := hf i hi
  have start : inR y e i f (sepK y s k) (rowS y f (sepK y s k) i) u.1 u.2.L u.2.At u.2.End u.2.F.E u.2.F.At := by
    unfold rowS
    cases h : f i with
    | inl x =>
      rw [h] at h0 hu
      obtain ⟨kk, hu2, h1, h2, h3⟩ := hu
      rw [hu2]
      exact ⟨rfl, rfl, .inr ⟨h0.1, x.1, x.2, kk, rfl, rfl, rfl, rfl, h1, h2, h3⟩⟩
    | inr p =>
      rw [h] at h0 hu
      obtain rfl : u = (p.1, oS y e p.2) := hu
      exact ⟨rfl, rfl, .inl ⟨rfl, rfl, p.2, _, rfl, h0.1, h0.2.1, h0.2.2, Nat.le_refl _, rfl⟩⟩
  refine W.lp6 (N := fun N => N) (inR y e i f (sepK y s k) (rowS y f (sepK y s k) i)) (fun _ _ y2 _ y4 _ => meR y y2 y4) start ?_
  rintro F l y1 y2 y3 y4 y5 hin hn
  by_cases h4 : y4 = 0
  rotate_left
  · exact hfail F l y1 y2 y3 y4 y5 _ h4 (inR_fail hin h4)
  obtain ⟨rfl, rfl, ⟨rfl, rfl, j, n, rfl, g1, g2, g3, g4, g5⟩ | ⟨h5, _⟩⟩ := hin
  rotate_left
  · exact absurd h4 h5
  refine hr F l j _ g2 (fun h => ?_) fun h => ?_
  · rw [lpG_end (by simp [sepK, h])] at g5
    rw [← g5]; rfl
  · have hs : sepK y1 s k j = some k := by simp [sepK, h]
    have hj := (sepK_lt hs).1
    obtain ⟨n, rfl⟩ : ∃ m, n = m + 1 := ⟨n - 1, by omega⟩
    exact inR_round hy hs hj g1 g3 g4 g5 (hf _ hj) (hsub _ hj).lift hn
theorem deeper_eq {N : Nat} {y : List lex_Token} {i : Nat} {e : Int} (d : Int) : s_predtext_parser_deeper_v927 N d y i e = some (if (isT' y i 2 nt = true ∨ isT' y i 4 [40] = true) ∧ 16 ≤ d then .inl (15, plc y e i, y, (i : Int), e) else .inr (y, (i : Int), e)) := by
  have eb : ∀ (x y : Int), x ≠ y → (x == y) = false := fun x y h => by simpa using h
  have es : ∀ (x y : List UInt8), x ≠ y → (x == y) = false := fun x y h => by simpa using h
  simp only [s_predtext_parser_deeper_v927, next_eq, fail_eq, Option.bind_some, leB_eq, isT', nt]
  by_cases hd : 16 ≤ d
  · by_cases h1 : (tk y i).Kind = 2
    · by_cases h2 : (tk y i).Text = [110, 111, 116]
      · simp [h1, h2, hd]
      · simp [h1, es _ _ h2, h2, hd, eb 2 4 (by decide)]
    · by_cases h3 : (tk y i).Kind = 4
      · by_cases h4 : (tk y i).Text = [40]
        · simp [h3, h4, hd, eb 4 2 (by decide)]
        · simp [h3, es _ _ h4, h4, hd, eb 4 2 (by decide)]
      · simp [eb _ _ h1, eb _ _ h3, h1, h3]
  · by_cases h1 : (tk y i).Kind = 2
    · by_cases h2 : (tk y i).Text = [110, 111, 116]
      · simp [h1, h2, hd]
      · simp [h1, es _ _ h2, h2, hd, eb 2 4 (by decide)]
    · by_cases h3 : (tk y i).Kind = 4
      · by_cases h4 : (tk y i).Text = [40]
        · simp [h3, h4, hd, eb 4 2 (by decide)]
        · simp [h3, es _ _ h4, h4, hd, eb 4 2 (by decide)]
      · simp [eb _ _ h1, eb _ _ h3, h1, h3, hd]
theorem p_row {y : List lex_Token} {e : Int} (hy : y.length ≤ 700) {f : Nat → RR} {s : List UInt8} {k : Int} {g : Nat → List lex_Token → Int → Int → Option PR} (hg : ∀ i : Nat, i ≤ y.length → okR y i (f i) ∧ W (fun N => g N y i e) (· = enP y e (f i)))
    {F0 : Nat → (List pred_Node → List lex_Token → Int → Int → Option PR) → List pred_Node → List lex_Token → Int → Int → Option PR}
    (hF : ∀ N nx l y' i' e', F0 N nx l y' i' e' = ((s_predtext_parser_eat_v368 N 2 s y' i' e').bind fun eat => bif eat.1 then (g N eat.2.1 eat.2.2.1 eat.2.2.2).bind fun x => Sum.elim (fun a => some (Sum.inl (a.1, a.2.1, a.2.2.1, a.2.2.2.1, a.2.2.2.2))) (fun a => (s_predtext_above N (bn k) [l, a.1]).bind fun ab => nx ab a.2.1 a.2.2.1 a.2.2.2) x else some (Sum.inr (l, eat.2.1, eat.2.2.1, eat.2.2.2)))) {i : Nat} (hi : i ≤ y.length) :
    W (fun N => (g N y i e).bind fun x => Sum.elim (fun a => some (Sum.inl (a.1, a.2.1, a.2.2.1, a.2.2.2.1, a.2.2.2.2))) (fun a => lp4 (F0 N) N a.1 a.2.1 a.2.2.1 a.2.2.2) x) (· = enP y e (rowS y f (sepK y s k) i)) := by
  obtain ⟨h0, hw⟩ := hg i hi
  refine W.bind hw ?_
  rintro _ rfl
  unfold rowS
  cases h : f i with
  | inl x => simp only [enP, Sum.elim_inl, W.ret]
  | inr p =>
    obtain ⟨l0, j0⟩ := p
    rw [h] at h0
    simp only [enP, Sum.elim_inr]
    refine w_rowP hy (fun j hj => (hg j hj).1) h0 ?_
    intro F l j Q hj hl hend hgo
    rw [show (fun p : Nat × Nat => F0 p.1 (F p) l y (j : Int) e) = _ from funext fun p => hF p.1 (F p) l y j e]
    simp only [eat_eq (y := y) (i := j) (e := e) 2 s (show j ≤ 1000000 by omega), Option.bind_some]
    by_cases h1 : isT' y j 2 s = true
    · have hj2 := kind_lt (by decide) (isT_kind h1).1
      simp only [if_pos h1, cond_true]
      have hq := hgo h1 hj2
      refine W.bind (hg (j + 1) hj2).2.lift ?_
      rintro _ rfl
      have hok := (hg (j + 1) hj2).1
      cases q : f (j + 1) with
      | inl x => rw [q] at hq; simp only [enP, Sum.elim_inl, W.ret]; exact hq
      | inr p =>
        obtain ⟨r, j'⟩ := p
        rw [q] at hq hok
        have hr : r.length ≤ 1000 := by have := hok.2.2; have := hok.2.1; omega
        simp only [enP, Sum.elim_inr]
        refine W.call (w_above (bn k) [l, r] (by simp) (by simp; omega)) ?_
        rintro _ rfl
        simpa using hq hr
    · simp only [if_neg h1, cond_false, W.ret]
      exact hend (by simpa using h1)
theorem partS_ok {y : List lex_Token} {p : SPT} {d : Int} {i : Nat} (hn : d < 16 → ∀ j, j ≤ y.length → okR y j (p.2.2 (d + 1) j)) (ho : d < 16 → ∀ j, j ≤ y.length → okR y j (p.1 (d + 1) j)) (hi : i ≤ y.length) : okR y i (partS y p d i) := by
  unfold partS
  by_cases hk : isT' y i 2 nt = true ∨ isT' y i 4 [40] = true
  · have hl : i < y.length := by
      rcases hk with h | h
      · exact kind_lt (by decide) (isT_kind h).1
      · exact kind_lt (by decide) (isT_kind h).1
    rw [if_pos hk]
    by_cases hd : 16 ≤ d
    · rw [if_pos hd]; exact ⟨by decide, Nat.le_refl _, hi⟩
    rw [if_neg hd]
    by_cases h1 : isT' y i 2 nt = true
    · rw [if_pos h1]
      have := hn (by omega) (i + 1) hl
      cases h : p.2.2 (d + 1) (i + 1) with
      | inl x => rw [h] at this; exact ⟨this.1, by have := this.2.1; omega, this.2.2⟩
      | inr q => rw [h] at this; obtain ⟨a, b, c⟩ := this; exact ⟨by omega, b, by simp only [List.length_cons]; omega⟩
    · rw [if_neg h1]
      have := ho (by omega) (i + 1) hl
      cases h : p.1 (d + 1) (i + 1) with
      | inl x => rw [h] at this; exact ⟨this.1, by have := this.2.1; omega, this.2.2⟩
      | inr q =>
        obtain ⟨l, j⟩ := q
        rw [h] at this; obtain ⟨a, b, c⟩ := this
        by_cases h2 : isT' y j 4 [41] = true
        · have := kind_lt (by decide) (isT_kind h2).1
          simp only [if_pos h2]; exact ⟨by omega, by omega, by omega⟩
        · simp only [if_neg h2]; exact ⟨by decide, by omega, b⟩
  · rw [if_neg hk]
    have := SU_ok hi
    cases h : SU y i with
    | inl x => rw [h] at this; exact this
    | inr q =>
      obtain ⟨l, j⟩ := q
      rw [h] at this; obtain ⟨a, b, c⟩ := this
      by_cases h2 : (tk y j).Kind = 4 ∧ opV (tk y j).Text ≠ 0
      · have hj := kind_lt (by decide) h2.1
        simp only [if_pos h2]
        have := SU_ok (y := y) (i := j + 1) hj
        cases g : SU y (j + 1) with
        | inl x => rw [g] at this; exact ⟨this.1, by have := this.2.1; omega, this.2.2⟩
        | inr q => rw [g] at this; obtain ⟨a2, b2, c2⟩ := this; exact ⟨by omega, b2, by simp only [List.length_cons, List.length_append]; omega⟩
      · simp only [if_neg h2]; exact ⟨by decide, by omega, b⟩
theorem p_part {y : List lex_Token} {e : Int} {p : SPT} {d : Int} {i : Nat} (hy : y.length ≤ 700) (hd0 : 0 ≤ d) (hd16 : d ≤ 16)
    (hn : d < 16 → ∀ j : Nat, j ≤ y.length → okR y j (p.2.2 (d + 1) j) ∧ W (fun N => (SS_predtext_parser_or_v927 N).2.2 (d + 1) y j e) (· = enP y e (p.2.2 (d + 1) j)))
    (ho : d < 16 → ∀ j : Nat, j ≤ y.length → okR y j (p.1 (d + 1) j) ∧ W (fun N => (SS_predtext_parser_or_v927 N).1 (d + 1) y j e) (· = enP y e (p.1 (d + 1) j))) (hi : i ≤ y.length) :
    W (fun N => b_predtext_parser_part_v927 N (SS_predtext_parser_or_v927 N) d y i e) (· = enP y e (partS y p d i)) := by
  have hent : ([110, 111, 116] : List UInt8) = nt := rfl
  simp only [b_predtext_parser_part_v927, deeper_eq, Option.bind_some, hent]
  unfold partS
  by_cases hk : isT' y i 2 nt = true ∨ isT' y i 4 [40] = true
  · have hl : i < y.length := by
      rcases hk with h | h
      · exact kind_lt (by decide) (isT_kind h).1
      · exact kind_lt (by decide) (isT_kind h).1
    rw [if_pos hk]
    by_cases hd : 16 ≤ d
    · rw [if_pos hd]
      simp only [if_pos (And.intro hk hd), Sum.elim_inl, W.ret, enP]
    rw [if_neg hd]
    simp only [if_neg (show ¬ ((isT' y i 2 nt = true ∨ isT' y i 4 [40] = true) ∧ 16 ≤ d) from fun h => hd h.2), Sum.elim_inr, eat_eq (y := y) (i := i) (e := e) 2 nt (show i ≤ 1000000 by omega), Option.bind_some]
    by_cases h1 : isT' y i 2 nt = true
    · simp only [if_pos h1, cond_true, W.gd, i64b_eq]
      refine ⟨by omega, ?_⟩
      obtain ⟨ok, hw⟩ := hn (by omega) (i + 1) hl
      refine W.bind hw ?_
      rintro _ rfl
      cases h : p.2.2 (d + 1) (i + 1) with
      | inl x => simp only [enP, Sum.elim_inl, W.ret]
      | inr q =>
        rw [h] at ok
        simp only [enP, Sum.elim_inr]
        refine W.call (w_above (bn 3) [q.1] (by simp) (by have := ok.2.2; have := ok.2.1; simp; omega)) ?_
        rintro _ rfl
        simp [W.ret]
    · have h2 : isT' y i 4 [40] = true := hk.resolve_left h1
      simp only [if_neg h1, cond_false, eat_eq (y := y) (i := i) (e := e) 4 [40] (show i ≤ 1000000 by omega), Option.bind_some, if_pos h2, cond_true, W.gd, i64b_eq]
      refine ⟨by omega, ?_⟩
      obtain ⟨ok, hw⟩ := ho (by omega) (i + 1) hl
      refine W.bind hw ?_
      rintro _ rfl
      cases h : p.1 (d + 1) (i + 1) with
      | inl x => simp only [enP, Sum.elim_inl, W.ret]
      | inr q =>
        obtain ⟨l, j⟩ := q
        rw [h] at ok
        have hj := ok.2.1
        simp only [enP, Sum.elim_inr, eat_eq (y := y) (i := j) (e := e) 4 [41] (show j ≤ 1000000 by omega), Option.bind_some]
        by_cases h3 : isT' y j 4 [41] = true
        · simp only [if_pos h3, Bool.not_true, cond_false, W.ret, enP]
        · simp only [if_neg h3, Bool.not_false, cond_true, fail_eq, Option.bind_some, W.ret, enP]
  · have h1 : ¬ isT' y i 2 nt = true := fun h => hk (.inl h)
    have h2 : ¬ isT' y i 4 [40] = true := fun h => hk (.inr h)
    rw [if_neg hk]
    simp only [if_neg (show ¬ ((isT' y i 2 nt = true ∨ isT' y i 4 [40] = true) ∧ 16 ≤ d) from fun h => hk h.1), Sum.elim_inr, eat_eq (y := y) (i := i) (e := e) 2 nt (show i ≤ 1000000 by omega), Option.bind_some, if_neg h1, cond_false, eat_eq (y := y) (i := i) (e := e) 4 [40] (show i ≤ 1000000 by omega), if_neg h2]
    refine W.call (w_sum hi hy) ?_
    rintro _ rfl
    have ok := SU_ok (y := y) hi
    cases h : SU y i with
    | inl x => simp only [enP, Sum.elim_inl, W.ret]
    | inr q =>
      obtain ⟨l, j⟩ := q
      rw [h] at ok
      obtain ⟨a, b, c⟩ := ok
      simp only [enP, Sum.elim_inr, next_eq, Option.bind_some]
      refine W.call (w_op _) ?_
      rintro _ rfl
      by_cases h3 : opV (tk y j).Text = 0
      · simp only [h3, beq_self_eq_true, cond_true, fail_eq, Option.bind_some, W.ret, ne_eq, not_true_eq_false, and_false, if_false, enP]
      · simp only [show (opV (tk y j).Text == 0) = false by simpa using h3, cond_false, take_eq (y := y) (i := j) (e := e) 4 (show j ≤ 1000000 by omega), Option.bind_some]
        by_cases h4 : (tk y j).Kind = 4
        · have hj := kind_lt (by decide) h4
          simp only [if_pos h4, Sum.elim_inr, if_pos (And.intro h4 h3)]
          refine W.call (w_sum (i := j + 1) hj hy) ?_
          rintro _ rfl
          have ok2 := SU_ok (y := y) (i := j + 1) hj
          cases g : SU y (j + 1) with
          | inl x => simp only [enP, Sum.elim_inl, W.ret]
          | inr q =>
            rw [g] at ok2
            obtain ⟨a2, b2, c2⟩ := ok2
            simp only [enP, Sum.elim_inr]
            refine W.call (w_above _ [l, q.1] (by simp) (by simp; omega)) ?_
            rintro _ rfl
            simp [W.ret]
        · simp only [if_neg h4, Sum.elim_inl, W.ret, if_neg (show ¬ ((tk y j).Kind = 4 ∧ opV (tk y j).Text ≠ 0) from fun h => h4 h.1), enP]
/-- The program tells what is said, at whatever depth that is allowed. -/
theorem p_all {y : List lex_Token} {e : Int} (hy : y.length ≤ 700) : ∀ (n : Nat),
    (∀ (d : Int) (i : Nat), 0 ≤ d → d ≤ 16 → i ≤ y.length → 3 * (16 - d) + 3 ≤ n → okR y i ((SPP y n).1 d i) ∧ W (fun N => (SS_predtext_parser_or_v927 N).1 d y i e) (· = enP y e ((SPP y n).1 d i))) ∧
    (∀ (d : Int) (i : Nat), 0 ≤ d → d ≤ 16 → i ≤ y.length → 3 * (16 - d) + 2 ≤ n → okR y i ((SPP y n).2.1 d i) ∧ W (fun N => (SS_predtext_parser_or_v927 N).2.1 d y i e) (· = enP y e ((SPP y n).2.1 d i))) ∧
    (∀ (d : Int) (i : Nat), 0 ≤ d → d ≤ 16 → i ≤ y.length → 3 * (16 - d) + 1 ≤ n → okR y i ((SPP y n).2.2 d i) ∧ W (fun N => (SS_predtext_parser_or_v927 N).2.2 d y i e) (· = enP y e ((SPP y n).2.2 d i)))
  | 0 => ⟨fun d i h1 h2 _ h4 => by omega, fun d i h1 h2 _ h4 => by omega, fun d i h1 h2 _ h4 => by omega⟩
  | n + 1 => by
    obtain ⟨io, ia, ip⟩ := p_all hy n
    refine ⟨fun d i h1 h2 h3 h4 => ?_, fun d i h1 h2 h3 h4 => ?_, fun d i h1 h2 h3 h4 => ?_⟩
    · have hg := fun (j : Nat) (hj : j ≤ y.length) => ia d j h1 h2 hj (by omega)
      refine ⟨rowS_ok (fun j hj => (hg j hj).1) h3, W.shift ?_⟩
      exact p_row hy (g := fun N y' i' e' => (SS_predtext_parser_or_v927 N).2.1 d y' i' e') (F0 := fun N => s_predtext_parser_or_v927_1 N (SS_predtext_parser_or_v927 N) d) hg (fun N nx l y' i' e' => rfl) h3
    · have hg := fun (j : Nat) (hj : j ≤ y.length) => ip d j h1 h2 hj (by omega)
      refine ⟨rowS_ok (fun j hj => (hg j hj).1) h3, W.shift ?_⟩
      exact p_row hy (g := fun N y' i' e' => (SS_predtext_parser_or_v927 N).2.2 d y' i' e') (F0 := fun N => s_predtext_parser_and_v927_1 N (SS_predtext_parser_or_v927 N) d) hg (fun N nx l y' i' e' => rfl) h3
    · refine ⟨partS_ok (fun hd j hj => (ip (d + 1) j (by omega) (by omega) hj (by omega)).1) (fun hd j hj => (io (d + 1) j (by omega) (by omega) hj (by omega)).1) h3, W.shift ?_⟩
      exact p_part hy h1 h2 (fun hd j hj => ip (d + 1) j (by omega) (by omega) hj (by omega)) (fun hd j hj => io (d + 1) j (by omega) (by omega) hj (by omega)) h3
theorem r_row {y : List lex_Token} {e : Int} (hy : y.length ≤ 700) {f : Nat → RR} {s : List UInt8} {k : Int} {g : Nat → ref12_State → Option (List pred_Node × ref12_State)} (hg : ∀ i : Nat, i ≤ y.length → okR y i (f i) ∧ W (fun N => g N (oS y e i)) (rfR y e i (f i)))
    {F0 : Nat → (List pred_Node → List lex_Token → Int → Int → Int → Int → Option (List pred_Node × ref12_State)) → List pred_Node → List lex_Token → Int → Int → Int → Int → Option (List pred_Node × ref12_State)}
    (hF : ∀ N nx l y1 y2 y3 y4 y5, F0 N nx l y1 y2 y3 y4 y5 = bif y4 == 0 then (s_ref12_is N (ref12_State.mk y1 y2 y3 (fault_Fault.mk y4 y5)) 2 s).bind fun is => bif is then (s_ref12_step N (ref12_State.mk y1 y2 y3 (fault_Fault.mk y4 y5))).bind fun st => (g N st).bind fun u => (s_ref12_join N (bn k) l u.1).bind fun jn => nx jn u.2.L u.2.At u.2.End u.2.F.E u.2.F.At else some (l, ref12_State.mk y1 y2 y3 (fault_Fault.mk y4 y5)) else some (l, ref12_State.mk y1 y2 y3 (fault_Fault.mk y4 y5))) {i : Nat} (hi : i ≤ y.length) :
    W (fun N => (g N (oS y e i)).bind fun u => lp6 (F0 N) N u.1 u.2.L u.2.At u.2.End u.2.F.E u.2.F.At) (rfR y e i (rowS y f (sepK y s k) i)) := by
  refine W.bind (hg i hi).2 fun u hu => ?_
  refine w_rowR hy hi (fun j hj => (hg j hj).1) (sub := fun N j => g N (oS y e j)) (fun j hj => (hg j hj).2) hu ?_ ?_
  · intro F l y1 y2 y3 y4 y5 Q h4 hq
    rw [show (fun p : Nat × Nat => F0 p.1 (F p) l y1 y2 y3 y4 y5) = _ from funext fun p => hF p.1 (F p) l y1 y2 y3 y4 y5]
    simp only [show (y4 == 0) = false by simpa using h4, cond_false, W.ret]
    exact hq
  · intro F l j Q hj hend hgo
    rw [show (fun p : Nat × Nat => F0 p.1 (F p) l y (j : Int) e 0 0) = _ from funext fun p => hF p.1 (F p) l y j e 0 0]
    simp only [beq_self_eq_true, cond_true, ris_eq (y := y) (i := j) (e := e) (F := ⟨0, 0⟩) (show (2 : Int) ≠ 0 by decide), rstep_eq (y := y) (i := j) (e := e) (F := ⟨0, 0⟩) (show j ≤ 1000000 by omega), Option.bind_some]
    by_cases h1 : isT' y j 2 s = true
    · simp only [h1, cond_true]
      exact hgo h1
    · simp only [show isT' y j 2 s = false by simpa using h1, cond_false, W.ret]
      exact hend (by simpa using h1)
theorem r_part {y : List lex_Token} {e : Int} {p : SPT} {d : Int} {i : Nat} (hy : y.length ≤ 700) (hd0 : 0 ≤ d) (hd16 : d ≤ 16)
    (hn : d < 16 → ∀ j : Nat, j ≤ y.length → okR y j (p.2.2 (d + 1) j) ∧ W (fun N => (SS_ref12_or N).2.2 (oS y e j) (d + 1)) (rfR y e j (p.2.2 (d + 1) j)))
    (ho : d < 16 → ∀ j : Nat, j ≤ y.length → okR y j (p.1 (d + 1) j) ∧ W (fun N => (SS_ref12_or N).1 (oS y e j) (d + 1)) (rfR y e j (p.1 (d + 1) j))) (hi : i ≤ y.length) :
    W (fun N => b_ref12_part N (SS_ref12_or N) (oS y e i) d) (rfR y e i (partS y p d i)) := by
  have hent : ([110, 111, 116] : List UInt8) = nt := rfl
  have t4 : ∀ (N j : Nat) s, s_ref12_is N (oS y e j) 4 s = some (isT' y j 4 s) := fun N j s => ris_eq (by decide) s
  have t2 : ∀ (N j : Nat) s, s_ref12_is N (oS y e j) 2 s = some (isT' y j 2 s) := fun N j s => ris_eq (by decide) s
  have k4 : ∀ (N j : Nat), s_ref12_kind N (oS y e j) 4 = some ((tk y j).Kind == 4) := fun N j => rkind_eq (by decide)
  have st : ∀ (N j : Nat), j ≤ 1000000 → s_ref12_step N (oS y e j) = some (oS y e (j + 1)) := fun N j hj => rstep_eq hj
  have sf : ∀ (N : Nat) (c : Int) (j k : Nat), k ≤ 1000000 → s_ref12_step N (fS y e c j k) = some (fS y e c j (k + 1)) := fun N c j k hk => rstep_eq hk
  have ixo : ∀ j : Nat, j < y.length → ix (oS y e j).L (oS y e j).At = some (tk y j) := fun j hj => (ix_at hj).1
  simp only [b_ref12_part, t2, t4, Option.bind_some, hent, leB_eq]
  unfold partS
  by_cases hk : isT' y i 2 nt = true ∨ isT' y i 4 [40] = true
  · have hl : i < y.length := by
      rcases hk with h | h
      · exact kind_lt (by decide) (isT_kind h).1
      · exact kind_lt (by decide) (isT_kind h).1
    rw [if_pos hk]
    by_cases hd : 16 ≤ d
    · rw [if_pos hd]
      have : W (fun N : Nat => (s_ref12_fail N (oS y e i) 15).bind fun fail => some (([] : List pred_Node), fail)) (rfR y e i (.inl (15, i))) := by
        simp only [rfail_eq, Option.bind_some, W.ret]
        exact ⟨i, rfl, by omega, Nat.le_refl _, Nat.zero_le _⟩
      by_cases h1 : isT' y i 2 nt = true
      · simp only [h1, cond_true, decide_eq_true hd]; exact this
      · have h2 : isT' y i 4 [40] = true := hk.resolve_left h1
        simp only [show isT' y i 2 nt = false by simpa using h1, h2, cond_false, cond_true, decide_eq_true hd]; exact this
    rw [if_neg hd]
    by_cases h1 : isT' y i 2 nt = true
    · simp only [h1, cond_true, decide_eq_false hd, cond_false, st _ i (show i ≤ 1000000 by omega), Option.bind_some, W.gd, i64b_eq, if_true]
      refine ⟨by omega, ?_⟩
      obtain ⟨ok, hw⟩ := hn (by omega) (i + 1) hl
      refine W.bind hw fun u hu => ?_
      cases h : p.2.2 (d + 1) (i + 1) with
      | inl x =>
        rw [h] at hu
        obtain ⟨kk, hu2, q1, q2, q3⟩ := hu
        simp only [show s_ref12_join = s_ref12_join from rfl]
        have hj := fun N => rjoin_eq (N := N) (bn 3) u.1 [] (by simp; omega)
        simp only [bn] at hj
        simp only [hj, Option.bind_some, W.ret]
        exact ⟨kk, hu2, by omega, by omega, by simp; omega⟩
      | inr q =>
        rw [h] at hu ok
        obtain rfl : u = (q.1, oS y e q.2) := hu
        have hj := fun N => rjoin_eq (N := N) (bn 3) q.1 [] (by have := ok.2.2; have := ok.2.1; simp; omega)
        simp only [bn] at hj
        simp only [hj, Option.bind_some, W.ret]
        simp [rfR, bn]
    · have h2 : isT' y i 4 [40] = true := hk.resolve_left h1
      simp only [show isT' y i 2 nt = false by simpa using h1, h2, cond_true, decide_eq_false hd, cond_false, st _ i (show i ≤ 1000000 by omega), Option.bind_some, W.gd, i64b_eq, Bool.false_eq_true, if_false]
      refine ⟨by omega, ?_⟩
      obtain ⟨ok, hw⟩ := ho (by omega) (i + 1) hl
      refine W.bind hw fun u hu => ?_
      cases h : p.1 (d + 1) (i + 1) with
      | inl x =>
        rw [h] at hu ok
        obtain ⟨kk, hu2, q1, q2, q3⟩ := hu
        have hc : x.1 ≠ 0 := ok.1
        rw [hu2]
        simp only [show ((fS y e x.1 x.2 kk).F.E == 0) = false by simpa [fS] using hc, cond_false, sf _ x.1 x.2 kk (show kk ≤ 1000000 by omega), Option.bind_some, W.ret]
        exact ⟨kk + 1, rfl, by omega, by omega, by show u.1.length ≤ _; omega⟩
      | inr q =>
        obtain ⟨l, j⟩ := q
        rw [h] at hu ok
        obtain rfl : u = (l, oS y e j) := hu
        have hj := ok.2.1
        simp only [show ((oS y e j).F.E == 0) = true from rfl, cond_true, t4, Option.bind_some]
        by_cases h3 : isT' y j 4 [41] = true
        · simp only [h3, Bool.not_true, cond_false, st _ j (show j ≤ 1000000 by omega), Option.bind_some, W.ret, if_true]; rfl
        · simp only [show isT' y j 4 [41] = false by simpa using h3, Bool.not_false, cond_true, rfail_eq, Option.bind_some, W.ret, Bool.false_eq_true, if_false]
          exact ⟨j, rfl, by omega, by have := ok.1; omega, Nat.zero_le _⟩
  · have h1 : isT' y i 2 nt = false := by
      cases h : isT' y i 2 nt with
      | false => rfl
      | true => exact absurd (.inl h) hk
    have h2 : isT' y i 4 [40] = false := by
      cases h : isT' y i 4 [40] with
      | false => rfl
      | true => exact absurd (.inr h) hk
    rw [if_neg hk]
    simp only [h1, h2, cond_false]
    refine W.call (w_rsum hi hy) fun u hu => ?_
    have ok := SU_ok (y := y) hi
    cases h : SU y i with
    | inl x =>
      rw [h] at hu ok
      obtain ⟨kk, hu2, q1, q2, q3⟩ := hu
      have hc : x.1 ≠ 0 := ok.1
      rw [hu2]
      simp only [show ((fS y e x.1 x.2 kk).F.E != 0) = true by simpa [fS] using hc, cond_true, W.ret]
      exact ⟨kk, rfl, by omega, by omega, Nat.zero_le _⟩
    | inr q =>
      obtain ⟨l, j⟩ := q
      rw [h] at hu ok
      obtain rfl : u = (l, oS y e j) := hu
      obtain ⟨a, b, c⟩ := ok
      have fl : W (fun N : Nat => (s_ref12_fail N (oS y e j) 4).bind fun fail => some (([] : List pred_Node), fail)) (rfR y e i (.inl (4, j))) := by
        simp only [rfail_eq, Option.bind_some, W.ret]
        exact ⟨j, rfl, by omega, by omega, Nat.zero_le _⟩
      simp only [show ((oS y e j).F.E != 0) = false from rfl, cond_false, k4, Option.bind_some]
      by_cases h4 : (tk y j).Kind = 4
      · have hj := kind_lt (by decide) h4
        simp only [show ((tk y j).Kind == 4) = true by simpa using h4, cond_true, ixo j hj, Option.bind_some]
        refine W.call (w_rop _) ?_
        rintro _ rfl
        by_cases h3 : opV (tk y j).Text = 0
        · simp only [show (opV (tk y j).Text == 0) = true by simpa using h3, cond_true, if_neg (show ¬ ((tk y j).Kind = 4 ∧ opV (tk y j).Text ≠ 0) from fun h => h.2 h3)]; exact fl
        · simp only [show (opV (tk y j).Text == 0) = false by simpa using h3, cond_false, st _ j (show j ≤ 1000000 by omega), Option.bind_some, if_pos (And.intro h4 h3)]
          refine W.call (w_rsum (i := j + 1) hj hy) fun u hu => ?_
          have ok2 := SU_ok (y := y) (i := j + 1) hj
          cases g : SU y (j + 1) with
          | inl x =>
            rw [g] at hu
            obtain ⟨kk, hu2, q1, q2, q3⟩ := hu
            simp only [fun N => rjoin_eq (N := N) ⟨4, opV (tk y j).Text, [], [], ⟨0, 0, 0, []⟩⟩ l u.1 (by omega), Option.bind_some, W.ret]
            exact ⟨kk, hu2, by omega, by omega, by simp only [List.length_cons, List.length_append]; omega⟩
          | inr q =>
            rw [g] at hu ok2
            obtain ⟨a2, b2, c2⟩ := ok2
            obtain rfl : u = (q.1, oS y e q.2) := hu
            simp only [fun N => rjoin_eq (N := N) ⟨4, opV (tk y j).Text, [], [], ⟨0, 0, 0, []⟩⟩ l q.1 (by omega), Option.bind_some, W.ret]
            rfl
      · simp only [show ((tk y j).Kind == 4) = false by simpa using h4, cond_false, if_neg (show ¬ ((tk y j).Kind = 4 ∧ opV (tk y j).Text ≠ 0) from fun h => h4 h.1)]; exact fl
theorem r_all {y : List lex_Token} {e : Int} (hy : y.length ≤ 700) : ∀ (n : Nat),
    (∀ (d : Int) (i : Nat), 0 ≤ d → d ≤ 16 → i ≤ y.length → 3 * (16 - d) + 3 ≤ n → okR y i ((SPP y n).1 d i) ∧ W (fun N => (SS_ref12_or N).1 (oS y e i) d) (rfR y e i ((SPP y n).1 d i))) ∧
    (∀ (d : Int) (i : Nat), 0 ≤ d → d ≤ 16 → i ≤ y.length → 3 * (16 - d) + 2 ≤ n → okR y i ((SPP y n).2.1 d i) ∧ W (fun N => (SS_ref12_or N).2.1 (oS y e i) d) (rfR y e i ((SPP y n).2.1 d i))) ∧
    (∀ (d : Int) (i : Nat), 0 ≤ d → d ≤ 16 → i ≤ y.length → 3 * (16 - d) + 1 ≤ n → okR y i ((SPP y n).2.2 d i) ∧ W (fun N => (SS_ref12_or N).2.2 (oS y e i) d) (rfR y e i ((SPP y n).2.2 d i)))
  | 0 => ⟨fun d i h1 h2 _ h4 => by omega, fun d i h1 h2 _ h4 => by omega, fun d i h1 h2 _ h4 => by omega⟩
  | n + 1 => by
    obtain ⟨io, ia, ip⟩ := r_all hy n
    refine ⟨fun d i h1 h2 h3 h4 => ?_, fun d i h1 h2 h3 h4 => ?_, fun d i h1 h2 h3 h4 => ?_⟩
    · have hg := fun (j : Nat) (hj : j ≤ y.length) => ia d j h1 h2 hj (by omega)
      refine ⟨rowS_ok (fun j hj => (hg j hj).1) h3, W.shift ?_⟩
      exact r_row hy (g := fun N s => (SS_ref12_or N).2.1 s d) (F0 := fun N => s_ref12_or_1 N (SS_ref12_or N) d) hg (fun N nx l y1 y2 y3 y4 y5 => rfl) h3
    · have hg := fun (j : Nat) (hj : j ≤ y.length) => ip d j h1 h2 hj (by omega)
      refine ⟨rowS_ok (fun j hj => (hg j hj).1) h3, W.shift ?_⟩
      exact r_row hy (g := fun N s => (SS_ref12_or N).2.2 s d) (F0 := fun N => s_ref12_and_1 N (SS_ref12_or N) d) hg (fun N nx l y1 y2 y3 y4 y5 => rfl) h3
    · refine ⟨partS_ok (fun hd j hj => (ip (d + 1) j (by omega) (by omega) hj (by omega)).1) (fun hd j hj => (io (d + 1) j (by omega) (by omega) hj (by omega)).1) h3, W.shift ?_⟩
      exact r_part hy h1 h2 (fun hd j hj => ip (d + 1) j (by omega) (by omega) hj (by omega)) (fun hd j hj => io (d + 1) j (by omega) (by omega) hj (by omega)) h3
theorem ncmp (a : Int) : compare a a = .eq := by simp [compare, compareOfLessAndEq]
theorem bcmp (a : Bool) : compare a.toNat a.toNat = .eq := by simp [compare, compareOfLessAndEq]
theorem nan_iff (n : Nat) : fcmpB .neq .f64 n n = decide (9218868437227405312 < n % 9223372036854775808) := by
  have h : FloatKind.f64.format = Ieee.double := rfl
  simp only [fcmpB, h, Ieee.Format.order, Ieee.Format.read]
  have e1 : Ieee.double.signWeight = 9223372036854775808 := by decide
  have e2 : Ieee.double.infRung = 9218868437227405312 := by decide
  have e3 : Ieee.double.binade = 4503599627370496 := by decide
  rw [e1, e2, e3]
  by_cases h1 : n % 9223372036854775808 < 4503599627370496
  · rw [if_pos h1, decide_eq_false (by omega)]; simp only [Ieee.Datum.order, ncmp]; rfl
  · by_cases h2 : n % 9223372036854775808 < 9218868437227405312
    · rw [if_neg h1, if_pos h2, decide_eq_false (by omega)]; simp only [Ieee.Datum.order, ncmp]; rfl
    · by_cases h3 : n % 9223372036854775808 = 9218868437227405312
      · rw [if_neg h1, if_neg h2, if_pos h3, decide_eq_false (by omega)]; simp only [Ieee.Datum.order, bcmp]; rfl
      · rw [if_neg h1, if_neg h2, if_neg h3, decide_eq_true (by omega)]; rfl
def cln (u : Int) : Int := if 9218868437227405312 < u.toNat % 9223372036854775808 then 9221120237041090560 else u
theorem e_real_Clean (u : Int) (N : Nat) : s_real_Clean N u = some (cln u) := by
  simp only [s_real_Clean, s_real_of, Option.bind_some, nan_iff, cln, decide_eq_true_eq, Bool.cond_eq_ite]
  split <;> rfl
def vchk (v : value_Value) : Int :=
  if v.Kind = 1 then (if v.N < -4611686018427387904 ∨ 4611686018427387904 < v.N then 8 else if v.Bits = 0 ∧ v.Text = [] then 0 else 2)
  else if v.Kind = 2 then (if v.N < 0 ∨ 1 < v.N then 8 else if v.Bits = 0 ∧ v.Text = [] then 0 else 2)
  else if v.Kind = 3 then (if cln v.Bits ≠ v.Bits then 4 else if v.N = 0 ∧ v.Text = [] then 0 else 2)
  else if v.Kind = 4 then (if 24 < v.Text.length then 5 else if v.N = 0 ∧ v.Bits = 0 then 0 else 2)
  else 11
theorem e_value_Check (v : value_Value) (N : Nat) : s_value_Check N v = some (vchk v) := by
  have hc := e_real_Clean v.Bits N
  simp only [s_value_Check, s_value_core, vchk, Bool.cond_eq_ite]
  by_cases k1 : v.Kind = 1
  · simp [k1, s_value_number_whole, ltB_iff]; repeat' split
    all_goals first | rfl | (exfalso; omega) | simp_all [eq_comm]
  · by_cases k2 : v.Kind = 2
    · simp [k2, s_value_flag_whole]; repeat' split
      all_goals first | rfl | (exfalso; omega) | simp_all [eq_comm]
    · by_cases k3 : v.Kind = 3
      · simp [k3, s_value_double_whole, hc]; repeat' split
        all_goals first | rfl | (exfalso; omega) | simp_all [eq_comm]
      · by_cases k4 : v.Kind = 4
        · simp [k4, s_value_words_whole, ltB_iff]; repeat' split
          all_goals first | rfl | (exfalso; omega) | simp_all [eq_comm]
        · simp [k1, k2, k3, k4]
theorem e_ref03_Clean (u : Int) (h0 : 0 ≤ u) (h1 : u ≤ 18446744073709551615) (N : Nat) : s_ref03_Clean N u = some (cln u) := by
  obtain ⟨n, rfl⟩ : ∃ n : Nat, u = (n : Int) := ⟨u.toNat, by omega⟩
  have d1 : Int.tdiv (n : Int) 4503599627370496 = ((n / 4503599627370496 : Nat) : Int) := rfl
  have w1 : IntKind.u64.wrap ((n / 4503599627370496 : Nat) : Int) = ((n / 4503599627370496 : Nat) : Int) := by
    rw [IntKind.wrap_u64]; omega
  have d2 : Int.tmod ((n / 4503599627370496 : Nat) : Int) 2048 = ((n / 4503599627370496 % 2048 : Nat) : Int) := rfl
  have w2 : IntKind.i64.wrap ((n / 4503599627370496 % 2048 : Nat) : Int) = ((n / 4503599627370496 % 2048 : Nat) : Int) := by
    rw [IntKind.wrap_i64]; omega
  have d3 : Int.tmod (n : Int) 4503599627370496 = ((n % 4503599627370496 : Nat) : Int) := rfl
  have hexp : s_ref03_Exp N n = some ((n / 4503599627370496 % 2048 : Nat) : Int) := by simp only [s_ref03_Exp, d1, w1, d2, w2]
  have hfrac : s_ref03_Frac N n = some ((n % 4503599627370496 : Nat) : Int) := by simp only [s_ref03_Frac, d3]
  have hk : ∃ k, s_ref03_Kind N n = some k ∧ (k == 5) = decide (9218868437227405312 < n % 9223372036854775808) := by
    simp only [s_ref03_Kind, hexp, hfrac, Option.bind_some, Bool.cond_eq_ite]
    by_cases c1 : n / 4503599627370496 % 2048 = 2047
    · have c1' : (((n / 4503599627370496 % 2048 : Nat) : Int) == 2047) = true := by simp; omega
      by_cases c2 : n % 4503599627370496 = 0
      · have c2' : (((n % 4503599627370496 : Nat) : Int) != 0) = false := by simp; omega
        simp only [c1', c2', if_true]
        exact ⟨4, rfl, by symm; exact decide_eq_false (by omega)⟩
      · have c2' : (((n % 4503599627370496 : Nat) : Int) != 0) = true := by simp; omega
        simp only [c1', c2', if_true]
        exact ⟨5, rfl, by symm; exact decide_eq_true (by omega)⟩
    · have c1' : (((n / 4503599627370496 % 2048 : Nat) : Int) == 2047) = false := by simp; omega
      simp only [c1', Bool.false_eq_true, if_false]
      have hd : decide (9218868437227405312 < n % 9223372036854775808) = false := decide_eq_false (by omega)
      rw [hd]
      by_cases c3 : (((n / 4503599627370496 % 2048 : Nat) : Int) != 0) = true
      · simp only [c3, if_true]; exact ⟨3, rfl, rfl⟩
      · by_cases c4 : (((n % 4503599627370496 : Nat) : Int) != 0) = true
        · simp only [eq_false_of_ne_true c3, c4, if_true, Bool.false_eq_true, if_false]; exact ⟨2, rfl, rfl⟩
        · simp only [eq_false_of_ne_true c3, eq_false_of_ne_true c4, Bool.false_eq_true, if_false]; exact ⟨1, rfl, rfl⟩
  obtain ⟨k, hk1, hk2⟩ := hk
  simp only [s_ref03_Clean, hk1, hk2, Option.bind_some, cln, decide_eq_true_eq, Int.toNat_natCast, Bool.cond_eq_ite]
  split <;> rfl
theorem e_ref04_Check (v : value_Value) (h0 : 0 ≤ v.Bits) (h1 : v.Bits ≤ 18446744073709551615) (N : Nat) : s_ref04_Check N v = some (vchk v) := by
  have hc := e_ref03_Clean v.Bits h0 h1 N
  simp only [s_ref04_Check, hc, Option.bind_some, vchk, Bool.cond_eq_ite, ltB_iff]
  by_cases k1 : v.Kind = 1
  · simp [k1]; repeat' split
    all_goals first | rfl | (exfalso; omega) | simp_all
  · by_cases k2 : v.Kind = 2
    · simp [k2]; repeat' split
      all_goals first | rfl | (exfalso; omega) | simp_all
    · by_cases k3 : v.Kind = 3
      · simp [k3]; repeat' split
        all_goals first | rfl | (exfalso; omega) | simp_all
      · by_cases k4 : v.Kind = 4
        · simp [k4]; repeat' split
          all_goals first | rfl | (exfalso; omega) | simp_all
        · simp [k1, k2, k3, k4]; repeat' split
          all_goals first | rfl | (exfalso; omega) | (intros; omega) | simp_all
def nResl : List (List UInt8) := [[119, 105, 116, 104, 105, 110], [98, 121], [97, 110, 100], [111, 114], [110, 111, 116], [97, 110, 121], [110, 101, 120, 116], [115, 116, 114, 105, 99, 116], [116, 114, 117, 101], [102, 97, 108, 115, 101]]
def nResv (s : List UInt8) : Bool := nResl.any (s == ·)
theorem w_nSReserved (s : List UInt8) : W (fun N => s_schema_Reserved N s) (· = nResv s) := by
  refine wall fun N => ?_
  have e2 : ∀ (b r : Bool), (bif b then some true else some r) = some (b || r) := by intro b r; cases b <;> rfl
  unfold s_schema_Reserved
  have e3 : ∀ (b r r' : Bool), (bif b then some (b || r') else some r) = some (b || r) := by intro b r r'; cases b <;> rfl
  have e4 : ∀ (b r : Bool), (bif b then some b else some r) = some (b || r) := by intro b r; cases b <;> rfl
  simp only [nResv, nResl, List.any_cons, List.any_nil, e2, e3, e4, Bool.or_false]
theorem w_nRReserved (s : List UInt8) : W (fun N => s_ref06_Reserved N s) (· = nResv s) := by
  refine wr1 (l := nResl) (fun _ rest => rest.any (s == ·)) [] nResl rfl rfl (by decide) ?_ ?_
  · intro F pre e rest hl h1 h2 h3 hn
    simp only [s_ref06_Reserved_1]
    rw [show ltB (pre.length : Int) (List.length ([[119, 105, 116, 104, 105, 110], [98, 121], [97, 110, 100], [111, 114], [110, 111, 116], [97, 110, 121], [110, 101, 120, 116], [115, 116, 114, 105, 99, 116], [116, 114, 117, 101], [102, 97, 108, 115, 101]] : List (List UInt8)) : Int) = true from h1]
    have h2' : ix ([[119, 105, 116, 104, 105, 110], [98, 121], [97, 110, 100], [111, 114], [110, 111, 116], [97, 110, 121], [110, 101, 120, 116], [115, 116, 114, 105, 99, 116], [116, 114, 117, 101], [102, 97, 108, 115, 101]] : List (List UInt8)) (pre.length : Int) = some e := h2
    simp only [h2', h3, Option.bind_some, cond_true, List.any_cons, gd_true, W.cond, W.ret]
    rw [show (e == s) = (s == e) from BEq.comm]
    refine ⟨fun h => by simp only [h, Bool.true_or], fun h => by simp only [h, Bool.false_or]; exact hn⟩
  · intro F h1
    simp only [s_ref06_Reserved_1]
    rw [show ltB (nResl.length : Int) (List.length ([[119, 105, 116, 104, 105, 110], [98, 121], [97, 110, 100], [111, 114], [110, 111, 116], [97, 110, 121], [110, 101, 120, 116], [115, 116, 114, 105, 99, 116], [116, 114, 117, 101], [102, 97, 108, 115, 101]] : List (List UInt8)) : Int) = false from h1]
    exact W.ret.2 rfl
def nLtr (c : UInt8) : Bool := leB 97 (c.toNat : Int) && leB (c.toNat : Int) 122
def nTl (c : UInt8) : Bool := nLtr c || (leB 48 (c.toNat : Int) && leB (c.toNat : Int) 57) || ((c.toNat : Int) == 95)
def nm : List UInt8 → Bool
  | [] => false
  | c :: t => !(ltB 12 ((c :: t).length : Int)) && (nLtr c && (!nResv (c :: t) && t.all nTl))
theorem e_schema_letter (c : UInt8) (N : Nat) : s_schema_letter N (c.toNat : Int) = some (nLtr c) := by
  simp only [s_schema_letter, nLtr]; cases leB 97 (c.toNat : Int) <;> rfl
theorem e_schema_tail (c : UInt8) (N : Nat) : s_schema_tail N (c.toNat : Int) = some (nTl c) := by
  simp only [s_schema_tail, e_schema_letter, Option.bind_some, nTl]
  cases nLtr c <;> cases leB 48 (c.toNat : Int) <;> cases leB (c.toNat : Int) 57 <;> rfl
theorem w_schema_Name (s : List UInt8) : W (fun N => s_schema_Name N s) (· = nm s) := by
  cases s with
  | nil => exact wall fun _ => rfl
  | cons c t =>
    simp only [s_schema_Name, show ((c :: t) == ([] : List UInt8)) = false from rfl, cond_false, W.cond, W.ret, show ix (c :: t) 0 = some c from rfl, Option.bind_some, e_schema_letter]
    refine ⟨fun h => by simp only [nm, h, Bool.not_true, Bool.false_and], fun h => ⟨fun h' => ?_, fun h' => ?_⟩⟩
    · have h' : nLtr c = false := by simpa using h'
      simp only [nm, h', Bool.false_and, Bool.and_false]
    have h' : nLtr c = true := by simpa using h'
    simp only [nm, h, h', Bool.not_false, Bool.true_and]
    refine W.call (w_nSReserved _) ?_
    rintro _ rfl
    simp only [W.cond, W.ret]
    refine ⟨fun h2 => by simp only [h2, Bool.not_true, Bool.false_and], fun h2 => ?_⟩
    simp only [h2, Bool.not_false, Bool.true_and]
    have hb := ltB_not.1 h
    refine wr1 (l := c :: t) (fun _ rest => rest.all nTl) [c] t rfl rfl (by omega) ?_ ?_
    · intro F pre e rest hl h1 h2 h3 hn
      simp only [s_schema_Name_1, h1, h2, h3, Option.bind_some, cond_true, e_schema_tail, W.cond, W.ret, gd_true, List.all_cons]
      refine ⟨fun h => ?_, fun h => ?_⟩
      · have h : nTl e = false := by simpa using h
        simp only [h, Bool.false_and]
      · have h : nTl e = true := by simpa using h
        simp only [h, Bool.true_and]; exact hn
    · intro F h1
      simp only [s_schema_Name_1, h1, cond_false, W.ret, List.all_nil]
def nmr : List UInt8 → List UInt8 → Bool
  | [], c :: t => nLtr c && t.all nTl
  | [], [] => true
  | _ :: _, rest => rest.all nTl
theorem nmr_cons (pre : List UInt8) (e : UInt8) (rest : List UInt8) : nmr pre (e :: rest) = (if (if pre = [] then nLtr e else nTl e) = true then rest.all nTl else false) := by
  cases pre with
  | nil => simp only [nmr, if_true]; cases nLtr e <;> rfl
  | cons c t => simp only [nmr, List.all_cons, reduceCtorEq, if_false]; cases nTl e <;> rfl
theorem nmr_snoc (pre : List UInt8) (e : UInt8) (rest : List UInt8) : nmr (pre ++ [e]) rest = rest.all nTl := by
  cases pre <;> rfl
theorem w_ref06_Name (s : List UInt8) : W (fun N => s_ref06_Name N s) (· = nm s) := by
  cases s with
  | nil => exact wall fun _ => rfl
  | cons c t =>
    have e0 : ltB (((c :: t).length : Nat) : Int) 1 = false := ltB_not.2 (by simp; omega)
    simp only [s_ref06_Name, e0, cond_false, W.cond, W.ret]
    refine ⟨fun h => by simp only [nm, h, Bool.not_true, Bool.false_and], fun h => ?_⟩
    simp only [nm, h, Bool.not_false, Bool.true_and]
    refine W.call (w_nRReserved _) ?_
    rintro _ rfl
    simp only [W.cond, W.ret]
    refine ⟨fun h2 => by simp only [h2, Bool.not_true, Bool.false_and, Bool.and_false], fun h2 => ?_⟩
    simp only [h2, Bool.not_false, Bool.true_and]
    have hb := ltB_not.1 h
    refine wr1 (l := c :: t) nmr [] (c :: t) rfl rfl (by omega) ?_ ?_
    · intro F pre e rest hl h1 h2 h3 hn
      simp only [s_ref06_Name_1, h1, h2, h3, Option.bind_some, cond_true, gd_true]
      rw [nmr_cons]
      rw [nmr_snoc] at hn
      have hi0 : ((pre.length : Int) == 0) = decide (pre = []) := by cases pre <;> simp <;> omega
      have e95 : (((e.toNat : Int) == 95) : Bool) = decide (e.toNat = 95) := by rw [Bool.eq_iff_iff]; simp; omega
      have a1 : leB 97 (e.toNat : Int) = decide (97 ≤ e.toNat) := by rw [leB_eq]; simp only [decide_eq_decide]; omega
      have a2 : leB 48 (e.toNat : Int) = decide (48 ≤ e.toNat) := by rw [leB_eq]; simp only [decide_eq_decide]; omega
      have a3 : leB (e.toNat : Int) 57 = decide (e.toNat ≤ 57) := by rw [leB_eq]; simp only [decide_eq_decide]; omega
      have a4 : leB (e.toNat : Int) 122 = decide (e.toNat ≤ 122) := by rw [leB_eq]; simp only [decide_eq_decide]; omega
      simp only [hi0, e95, a1, a2, a3, a4, nTl, nLtr]
      generalize rest.all nTl = R at hn ⊢
      by_cases b0 : pre = [] <;> by_cases b1 : 97 ≤ e.toNat <;> by_cases b2 : 48 ≤ e.toNat <;> by_cases b3 : e.toNat ≤ 57 <;> by_cases b4 : e.toNat ≤ 122 <;> by_cases b5 : e.toNat = 95 <;>
        first | (exfalso; omega) | (simp only [b0, b1, b2, b3, b4, b5, decide_true, decide_false, if_true, if_false, cond_true, cond_false, Bool.not_true, Bool.not_false, Bool.true_and, Bool.and_true, Bool.false_and, Bool.and_false, Bool.true_or, Bool.or_true, Bool.false_or, Bool.or_false, reduceCtorEq, Bool.false_eq_true]; first | exact hn | (subst b0; exact hn) | exact W.ret.2 rfl)
    · intro F h1
      simp only [s_ref06_Name_1, h1, cond_false, W.ret, nmr, List.all_nil]
section
def bad (n : pred_Node) : Bool :=
  bif n.Kind == 4 then !(leB 1 n.Op && leB n.Op 6)
  else bif n.Kind == 7 then !nm n.Name
  else bif n.Kind == 8 then (!nm n.Name) || (!nm n.Var)
  else bif n.Kind == 9 then vchk n.Val != 0
  else false
def nds (n : pred_Node) : Int := bif bad n then 4 else bif moreB n then 2 else 0
theorem sign_nil (v : Int) (N : Nat) : ∃ s, s_compare_Sign N v = some s ∧ (s == []) = !(leB 1 v && leB v 6) := by
  by_cases h : 1 ≤ v ∧ v ≤ 6
  · have h6 : v = 1 ∨ v = 2 ∨ v = 3 ∨ v = 4 ∨ v = 5 ∨ v = 6 := by omega
    rcases h6 with rfl | rfl | rfl | rfl | rfl | rfl <;> exact ⟨_, rfl, rfl⟩
  · refine ⟨[], ?_, ?_⟩
    · have e : ∀ k : Int, 1 ≤ k ∧ k ≤ 6 → (v == k) = false := fun k hk => by
        rw [beq_eq_false_iff_ne]; intro he; subst he; exact h hk
      simp only [s_compare_Sign, e 1 (by omega), e 2 (by omega), e 3 (by omega), e 4 (by omega), e 5 (by omega), e 6 (by omega), cond_false]
    · rw [leB_eq, leB_eq]
      have : ¬ (1 ≤ v ∧ v ≤ 6) := h
      by_cases h1 : 1 ≤ v
      · have : ¬ v ≤ 6 := fun h2 => h ⟨h1, h2⟩
        simp [h1, this]
      · simp [h1]
theorem w_lacks (n : pred_Node) : W (fun N => s_pred_Node_lacks N n) (· = bad n) := by
  obtain ⟨k, op, va, na, v⟩ := n
  simp only [s_pred_Node_lacks, bad]
  by_cases h4 : k = 4
  · subst h4
    have e : ∀ N, ((s_compare_Sign N op).bind fun sign => some (sign == [])) = some (!(leB 1 op && leB op 6)) := fun N => by
      obtain ⟨s, hs, h⟩ := sign_nil op N
      rw [hs, Option.bind_some, h]
    simp only [show ((4 : Int) == 4) = true from rfl, cond_true, e, W.ret]
  simp only [show (k == 4) = false by simpa using h4, cond_false]
  by_cases h7 : k = 7
  · subst h7
    simp only [show ((7 : Int) == 7) = true from rfl, cond_true]
    refine W.call (w_schema_Name na) ?_
    rintro _ rfl
    simp only [W.ret]
  simp only [show (k == 7) = false by simpa using h7, cond_false]
  by_cases h8 : k = 8
  · subst h8
    simp only [show ((8 : Int) == 8) = true from rfl, cond_true]
    refine W.call (w_schema_Name na) ?_
    rintro _ rfl
    cases hn : nm na with
    | false => simp [W.ret]
    | true =>
      simp only [Bool.not_true, cond_false]
      refine W.call (w_schema_Name va) ?_
      rintro _ rfl
      simp [W.ret]
  simp only [show (k == 8) = false by simpa using h8, cond_false]
  by_cases h9 : k = 9
  · subst h9
    simp only [show ((9 : Int) == 9) = true from rfl, cond_true, e_value_Check, Option.bind_some, W.ret]
  simp only [show (k == 9) = false by simpa using h9, cond_false, W.ret]
set_option maxHeartbeats 4000000 in
theorem w_needs (n : pred_Node) (b0 : 0 ≤ n.Val.Bits) (b1 : n.Val.Bits ≤ 18446744073709551615) : W (fun N => s_ref11_needs N n) (· = nds n) := by
  obtain ⟨k, op, va, na, v⟩ := n
  simp only at b0 b1
  simp only [s_ref11_needs, s_ref11_needs_j0, s_ref11_needs_j1, s_ref11_needs_j2, s_ref11_needs_j3, s_ref11_needs_j4, s_ref11_needs_j5, nds, bad, moreB, moreZ]
  by_cases h4 : k = 4
  · subst h4
    have l1 : ltB op 1 = !leB 1 op := by rw [ltB_eq, leB_eq]; by_cases h : op < 1 <;> simp [h] <;> omega
    have l2 : ltB 6 op = !leB op 6 := by rw [ltB_eq, leB_eq]; by_cases h : 6 < op <;> simp [h] <;> omega
    simp only [l1, l2]
    cases leB 1 op <;> cases leB op 6 <;> cases hv : (va == []) <;> cases hn : (na == []) <;> cases hz : ((v.Kind == 0) && ((v.N == 0) && ((v.Bits == 0) && (v.Text == [])))) <;> simp [W.ret]
  by_cases h7 : k = 7
  · subst h7
    simp only [show ((7 : Int) == 4) = false from rfl, show ((7 : Int) == 7) = true from rfl, cond_false, cond_true]
    refine W.call (w_ref06_Name na) ?_
    rintro _ rfl
    cases nm na <;> cases ho : (op == 0) <;> cases hv : (va == []) <;> cases hz : ((v.Kind == 0) && ((v.N == 0) && ((v.Bits == 0) && (v.Text == [])))) <;> simp [W.ret, bne, ho]
  by_cases h8 : k = 8
  · subst h8
    simp only [show ((8 : Int) == 4) = false from rfl, show ((8 : Int) == 7) = false from rfl, show ((8 : Int) == 8) = true from rfl, cond_false, cond_true]
    refine W.call (w_ref06_Name na) ?_
    rintro _ rfl
    cases nm na with
    | false => simp [W.ret]
    | true =>
      simp only [Bool.not_true, cond_false]
      refine W.call (w_ref06_Name va) ?_
      rintro _ rfl
      cases nm va <;> cases ho : (op == 0) <;> cases hz : ((v.Kind == 0) && ((v.N == 0) && ((v.Bits == 0) && (v.Text == [])))) <;> simp [W.ret, bne, ho]
  by_cases h9 : k = 9
  · subst h9
    simp only [e_ref04_Check v b0 b1, Option.bind_some]
    cases hc : (vchk v == 0) <;> cases ho : (op == 0) <;> cases hv : (va == []) <;> cases hn : (na == []) <;> simp [W.ret, bne, ho, hc]
  have e4 : (k == 4) = false := by simpa using h4
  have e7 : (k == 7) = false := by simpa using h7
  have e8 : (k == 8) = false := by simpa using h8
  have e9 : (k == 9) = false := by simpa using h9
  simp only [e4, e7, e8, e9, bne, cond_false, Bool.not_false, cond_true]
  cases ho : (op == 0) <;> cases hv : (va == []) <;> cases hn : (na == []) <;> cases hz : ((v.Kind == 0) && ((v.N == 0) && ((v.Bits == 0) && (v.Text == [])))) <;> simp [W.ret]
end
def kdN (k : Int) : Int := if k = 1 ∨ k = 2 ∨ k = 4 ∨ k = 5 ∨ k = 6 then 2 else if k = 3 then 1 else 0
def kdW (k : Int) (x : Int) : Int := if k ≤ 3 then 0 else if k = 4 then 1 else if x = 0 then 1 else 2
def stB (k w : Int) : Bool := bif w == 0 then leB 1 k && leB k 4 else bif w == 1 then leB 5 k && leB k 9 else leB 7 k && leB k 9
abbrev TF := Int → Int → Nat → Int × Nat
def kids (p : TF) (k d : Int) (i : Nat) : Int × Nat :=
  if kdN k = 0 then (0, i)
  else if (p (kdW k 0) (d + 1) i).1 ≠ 0 ∨ kdN k = 1 then p (kdW k 0) (d + 1) i
  else p (kdW k 1) (d + 1) (p (kdW k 0) (d + 1) i).2
def trS (l : List pred_Node) (p : TF) : TF := fun w d i =>
  match l[i]? with
  | none => (3, i)
  | some n => if 16 ≤ d then (15, i) else if stB n.Kind w = false then (11, i) else if nds n ≠ 0 then (nds n, i) else kids p n.Kind d (i + 1)
def TR (l : List pred_Node) : Nat → TF
  | 0 => fun _ _ i => (3, i)
  | n + 1 => trS l (TR l n)
theorem e_kids (k : Int) (N : Nat) : s_pred_Kids N k = some (kdN k) := by
  simp only [s_pred_Kids, kdN]
  by_cases h1 : k = 1
  · subst h1; rfl
  by_cases h2 : k = 2
  · subst h2; rfl
  by_cases h4 : k = 4
  · subst h4; rfl
  by_cases h5 : k = 5
  · subst h5; rfl
  by_cases h6 : k = 6
  · subst h6; rfl
  simp only [show (k == 1) = false by simpa using h1, show (k == 2) = false by simpa using h2, show (k == 4) = false by simpa using h4, show (k == 5) = false by simpa using h5, show (k == 6) = false by simpa using h6, cond_false, h1, h2, h4, h5, h6, false_or, if_false]
  by_cases h3 : k = 3
  · subst h3; rfl
  · simp [h3, show (k == 3) = false by simpa using h3]
theorem e_rkids (k : Int) (N : Nat) : s_ref11_Kids N k = some (kdN k) := by
  simp only [s_ref11_Kids, kdN]
  by_cases h1 : k = 1
  · subst h1; rfl
  by_cases h2 : k = 2
  · subst h2; rfl
  by_cases h4 : k = 4
  · subst h4; rfl
  by_cases h5 : k = 5
  · subst h5; rfl
  by_cases h6 : k = 6
  · subst h6; rfl
  simp only [show (k == 1) = false by simpa using h1, show (k == 2) = false by simpa using h2, show (k == 4) = false by simpa using h4, show (k == 5) = false by simpa using h5, show (k == 6) = false by simpa using h6, cond_false, h1, h2, h4, h5, h6, false_or, if_false]
  by_cases h3 : k = 3
  · subst h3; rfl
  · simp [h3, show (k == 3) = false by simpa using h3]
theorem e_kid (n : pred_Node) (x : Int) (N : Nat) : s_pred_Node_kid N n x = some (kdW n.Kind x) := by
  simp only [s_pred_Node_kid, kdW, leB_eq]
  by_cases h3 : n.Kind ≤ 3
  · simp [h3]
  · by_cases h4 : n.Kind = 4
    · simp [h4]
    · by_cases hx : x = 0
      · simp [h3, h4, hx, show (n.Kind == 4) = false by simpa using h4]
      · simp [h3, h4, hx, show (x == 0) = false by simpa using hx, show (n.Kind == 4) = false by simpa using h4]
theorem e_rkid (k x : Int) (N : Nat) : s_ref11_kid N k x = some (kdW k x + 1) := by
  simp only [s_ref11_kid, kdW, leB_eq]
  by_cases h3 : k ≤ 3
  · simp [h3]
  · by_cases h4 : k = 4
    · simp [h4]
    · by_cases hx : x = 0
      · simp [h3, h4, hx, show (k == 4) = false by simpa using h4]
      · simp [h3, h4, hx, show (x == 0) = false by simpa using hx, show (k == 4) = false by simpa using h4]
theorem e_stands (n : pred_Node) (w : Int) (N : Nat) : s_pred_Node_stands N n w = some (stB n.Kind w) := by
  simp only [s_pred_Node_stands, stB]
  cases w == 0 <;> cases w == 1 <;> cases leB 1 n.Kind <;> cases leB 5 n.Kind <;> cases leB 7 n.Kind <;> simp
theorem e_may (k w : Int) (N : Nat) : s_ref11_may N k (w + 1) = some (stB k w) := by
  simp only [s_ref11_may, stB]
  have e1 : (w + 1 == 1) = (w == 0) := by rw [Bool.eq_iff_iff, beq_iff_eq, beq_iff_eq]; omega
  have e2 : (w + 1 == 2) = (w == 1) := by rw [Bool.eq_iff_iff, beq_iff_eq, beq_iff_eq]; omega
  rw [e1, e2]
  cases w == 0 <;> cases w == 1 <;> cases leB 1 k <;> cases leB 5 k <;> cases leB 7 k <;> simp
theorem kdN_b (k : Int) : 0 ≤ kdN k ∧ kdN k ≤ 2 := by
  unfold kdN
  repeat' split
  all_goals omega
theorem get_ix {l : List pred_Node} {i : Nat} : (leB (l.length : Int) (i : Int) = (l[i]?).isNone) ∧ ∀ n, l[i]? = some n → ix l (i : Int) = some n := by
  refine ⟨?_, fun n h => by rw [ix_nat', h]⟩
  rw [leB_eq, Bool.eq_iff_iff, decide_eq_true_iff, Option.isNone_iff_eq_none, List.getElem?_eq_none_iff]
  omega
theorem p_kids {l : List pred_Node} {p : TF} {n : pred_Node} {d : Int} {i : Nat} (hl : l.length ≤ 30) (hd0 : 0 ≤ d) (hd : d < 16) (hp : ∀ (w : Int) (j : Nat), W (fun N => (SS_pred_checker_tree_v739 N) w (d + 1) l j) (· = ((p w (d + 1) j).1, l, ((p w (d + 1) j).2 : Int)))) :
    W (fun N => lp3 (s_pred_checker_tree_v739_1 N (SS_pred_checker_tree_v739 N) d (kdN n.Kind) n.Kind n.Op n.Var n.Name n.Val.Kind n.Val.N n.Val.Bits n.Val.Text) N 0 l (i : Int)) (· = ((kids p n.Kind d i).1, l, ((kids p n.Kind d i).2 : Int))) := by
  have hb := kdN_b n.Kind
  refine W.lp3 (N := fun N => N) (fun x y j => y = l ∧ ((x = 0 ∧ j = (i : Int)) ∨ (x = 1 ∧ kdN n.Kind ≠ 0 ∧ (p (kdW n.Kind 0) (d + 1) i).1 = 0 ∧ j = ((p (kdW n.Kind 0) (d + 1) i).2 : Int)) ∨
    (x = 2 ∧ kdN n.Kind = 2 ∧ (p (kdW n.Kind 0) (d + 1) i).1 = 0 ∧ (p (kdW n.Kind 1) (d + 1) (p (kdW n.Kind 0) (d + 1) i).2).1 = 0 ∧ j = ((p (kdW n.Kind 1) (d + 1) (p (kdW n.Kind 0) (d + 1) i).2).2 : Int)))) (fun x _ _ => (3 - x).toNat) ⟨rfl, .inl ⟨rfl, rfl⟩⟩ ?_
  rintro F x y j ⟨rfl, h⟩ hn
  simp only [s_pred_checker_tree_v739_1, e_kid, Option.bind_some, W.cond, W.gd, ltB_iff, ltB_not, i64b_eq, W.ret]
  rcases h with ⟨rfl, rfl⟩ | ⟨rfl, h1, h2, rfl⟩ | ⟨rfl, h1, h2, h3, rfl⟩
  · refine ⟨fun hx => ⟨by omega, ?_⟩, fun hx => ?_⟩
    · refine W.bind (hp _ i).lift ?_
      rintro _ rfl
      simp only [W.cond, W.gd, W.ret, i64b_eq]
      refine ⟨fun h0 => ?_, fun h0 => ⟨by omega, hn _ _ _ ⟨rfl, .inr (.inl ⟨rfl, by omega, by simpa using h0, rfl⟩)⟩ (by omega)⟩⟩
      have h0 : (p (kdW n.Kind 0) (d + 1) i).1 ≠ 0 := by simpa using h0
      rw [kids, if_neg (by omega), if_pos (.inl h0)]
    · rw [kids, if_pos (by omega)]
  · refine ⟨fun hx => ⟨by omega, ?_⟩, fun hx => ?_⟩
    · refine W.bind (hp _ _).lift ?_
      rintro _ rfl
      simp only [W.cond, W.gd, W.ret, i64b_eq]
      refine ⟨fun h0 => ?_, fun h0 => ⟨by omega, hn _ _ _ ⟨rfl, .inr (.inr ⟨rfl, by omega, h2, by simpa using h0, rfl⟩)⟩ (by omega)⟩⟩
      rw [kids, if_neg (by omega), if_neg (by intro h; rcases h with h | h <;> omega)]
    · rw [kids, if_neg h1, if_pos (.inr (by omega))]
      rw [h2]
  · refine ⟨fun hx => by omega, fun hx => ?_⟩
    rw [kids, if_neg (by omega), if_neg (by intro h; rcases h with h | h <;> omega), h3]
theorem r_kids {l : List pred_Node} {p : TF} {k : Int} {d : Int} {i : Nat} (hl : l.length ≤ 30) (hd0 : 0 ≤ d) (hd : d < 16) (hp : ∀ (w : Int) (j : Nat), W (fun N => (SS_ref11_tree N) l j (w + 1) (d + 1)) (· = (((p w (d + 1) j).2 : Int), (p w (d + 1) j).1))) :
    W (fun N => lp2 (s_ref11_tree_1 N (SS_ref11_tree N) l d k) N (i : Int) 0) (· = (((kids p k d i).2 : Int), (kids p k d i).1)) := by
  have hb := kdN_b k
  refine W.lp2 (N := fun N => N) (fun j x => ((x = 0 ∧ j = (i : Int)) ∨ (x = 1 ∧ kdN k ≠ 0 ∧ (p (kdW k 0) (d + 1) i).1 = 0 ∧ j = ((p (kdW k 0) (d + 1) i).2 : Int)) ∨
    (x = 2 ∧ kdN k = 2 ∧ (p (kdW k 0) (d + 1) i).1 = 0 ∧ (p (kdW k 1) (d + 1) (p (kdW k 0) (d + 1) i).2).1 = 0 ∧ j = ((p (kdW k 1) (d + 1) (p (kdW k 0) (d + 1) i).2).2 : Int)))) (fun _ x => (3 - x).toNat) (.inl ⟨rfl, rfl⟩) ?_
  rintro F j x h hn
  simp only [s_ref11_tree_1, e_rkids, e_rkid, Option.bind_some, W.cond, W.gd, ltB_iff, ltB_not, i64b_eq, W.ret]
  rcases h with ⟨rfl, rfl⟩ | ⟨rfl, h1, h2, rfl⟩ | ⟨rfl, h1, h2, h3, rfl⟩
  · refine ⟨fun hx => ⟨by omega, ?_⟩, fun hx => ?_⟩
    · refine W.bind (hp _ i).lift ?_
      rintro _ rfl
      simp only [W.cond, W.gd, W.ret, i64b_eq]
      refine ⟨fun h0 => ?_, fun h0 => ⟨by omega, hn _ _ (.inr (.inl ⟨rfl, by omega, by simpa using h0, rfl⟩)) (by omega)⟩⟩
      have h0 : (p (kdW k 0) (d + 1) i).1 ≠ 0 := by simpa using h0
      rw [kids, if_neg (by omega), if_pos (.inl h0)]
    · rw [kids, if_pos (by omega)]
  · refine ⟨fun hx => ⟨by omega, ?_⟩, fun hx => ?_⟩
    · refine W.bind (hp _ _).lift ?_
      rintro _ rfl
      simp only [W.cond, W.gd, W.ret, i64b_eq]
      refine ⟨fun h0 => ?_, fun h0 => ⟨by omega, hn _ _ (.inr (.inr ⟨rfl, by omega, h2, by simpa using h0, rfl⟩)) (by omega)⟩⟩
      rw [kids, if_neg (by omega), if_neg (by intro h; rcases h with h | h <;> omega)]
    · rw [kids, if_neg h1, if_pos (.inr (by omega))]
      rw [h2]
  · refine ⟨fun hx => by omega, fun hx => ?_⟩
    rw [kids, if_neg (by omega), if_neg (by intro h; rcases h with h | h <;> omega), h3]
def okN (l : List pred_Node) : Prop := ∀ n ∈ l, 0 ≤ n.Val.Bits ∧ n.Val.Bits ≤ 18446744073709551615
theorem nds_eq (n : pred_Node) : nds n = if bad n = true then 4 else if moreB n = true then 2 else 0 := by
  unfold nds
  cases bad n <;> cases moreB n <;> rfl
theorem p_tree {l : List pred_Node} (hl : l.length ≤ 30) : ∀ (n : Nat) (w d : Int) (i : Nat), 0 ≤ d → d ≤ 16 → 16 - d + 1 ≤ n → W (fun N => (SS_pred_checker_tree_v739 N) w d l i) (· = ((TR l n w d i).1, l, ((TR l n w d i).2 : Int)))
  | 0, w, d, i, h0, h1, h2 => by omega
  | n + 1, w, d, i, h0, h1, h2 => by
    refine W.shift ?_
    show W (fun N => b_pred_checker_tree_v739 N (SS_pred_checker_tree_v739 N) w d l i) _
    simp only [b_pred_checker_tree_v739, get_ix.1]
    show W _ (· = ((trS l (TR l n) w d i).1, l, ((trS l (TR l n) w d i).2 : Int)))
    unfold trS
    cases hg : l[i]? with
    | none => simp only [Option.isNone_none, cond_true, W.ret]
    | some nd =>
      have hi : i < 30 := by have := (List.getElem?_eq_some_iff.1 hg).1; omega
      simp only [Option.isNone_some, cond_false, get_ix.2 nd hg, Option.bind_some, leB_eq, e_stands]
      by_cases hd : 16 ≤ d
      · simp only [decide_eq_true hd, cond_true, if_pos hd, W.ret]
      simp only [decide_eq_false hd, cond_false, if_neg hd]
      cases hs : stB nd.Kind w with
      | false => simp only [Bool.not_false, cond_true, W.ret, if_true]
      | true =>
        simp only [Bool.not_true, cond_false, Bool.true_eq_false, if_false, s_pred_is_v782, s_pred_is_v272, s_pred_Node_more]
        refine W.bind (P := (· = if bad nd = true then (4 : Int) else 0)) ?_ ?_
        · refine W.call (w_lacks nd) ?_
          rintro _ rfl
          cases bad nd <;> simp [W.ret]
        rintro _ rfl
        rw [nds_eq]
        cases hb : bad nd with
        | true => simp [W.ret]
        | false =>
          cases hm : moreB nd with
          | true => simp [W.ret, hm]
          | false =>
            simp only [Bool.false_eq_true, if_false, show ((0 : Int) != 0) = false from rfl, cond_false, Option.bind_some, W.gd, i64b_eq, e_kids, ne_eq, not_true_eq_false]
            refine ⟨by omega, ?_⟩
            have := p_kids (l := l) (p := TR l n) (n := nd) (d := d) (i := i + 1) hl h0 (by omega) fun w j => p_tree hl n w (d + 1) j (by omega) (by omega) (by omega)
            simpa using this
theorem r_tree {l : List pred_Node} (hl : l.length ≤ 30) (hk : okN l) : ∀ (n : Nat) (w d : Int) (i : Nat), 0 ≤ d → d ≤ 16 → 16 - d + 1 ≤ n → W (fun N => (SS_ref11_tree N) l i (w + 1) d) (· = (((TR l n w d i).2 : Int), (TR l n w d i).1))
  | 0, w, d, i, h0, h1, h2 => by omega
  | n + 1, w, d, i, h0, h1, h2 => by
    refine W.shift ?_
    show W (fun N => b_ref11_tree N (SS_ref11_tree N) l i (w + 1) d) _
    simp only [b_ref11_tree, get_ix.1]
    show W _ (· = (((trS l (TR l n) w d i).2 : Int), (trS l (TR l n) w d i).1))
    unfold trS
    cases hg : l[i]? with
    | none => simp only [Option.isNone_none, cond_true, W.ret]
    | some nd =>
      have hi : i < 30 := by have := (List.getElem?_eq_some_iff.1 hg).1; omega
      have hmem : nd ∈ l := List.mem_of_getElem? hg
      simp only [Option.isNone_some, cond_false, get_ix.2 nd hg, Option.bind_some, leB_eq, e_may]
      by_cases hd : 16 ≤ d
      · simp only [decide_eq_true hd, cond_true, if_pos hd, W.ret]
      simp only [decide_eq_false hd, cond_false, if_neg hd]
      cases hs : stB nd.Kind w with
      | false => simp only [Bool.not_false, cond_true, W.ret, if_true]
      | true =>
        simp only [Bool.not_true, cond_false, Bool.true_eq_false, if_false]
        refine W.call (w_needs nd (hk nd hmem).1 (hk nd hmem).2) ?_
        rintro _ rfl
        by_cases h3 : nds nd = 0
        · simp only [h3, show ((0 : Int) != 0) = false from rfl, cond_false, W.gd, i64b_eq, ne_eq, not_true_eq_false, if_false]
          refine ⟨by omega, ?_⟩
          have := r_kids (l := l) (p := TR l n) (k := nd.Kind) (d := d) (i := i + 1) hl h0 (by omega) fun w j => r_tree hl hk n w (d + 1) j (by omega) (by omega) (by omega)
          simpa using this
        · simp only [show (nds nd != 0) = true by simpa using h3, cond_true, W.ret, ne_eq, h3, not_false_eq_true, if_true]
def chk (l : List pred_Node) : Int := if 30 < l.length then 5 else if l.length = 0 then 0 else if (TR l 17 0 0 0).1 ≠ 0 then (TR l 17 0 0 0).1 else if (TR l 17 0 0 0).2 < l.length then 5 else 0
theorem w_check (l : List pred_Node) : W (fun N => s_pred_Check N l) (· = chk l) := by
  simp only [s_pred_Check, chk, W.cond, ltB_iff, ltB_not, W.ret]
  refine ⟨fun h => by rw [if_pos (by omega)], fun h => ?_⟩
  rw [if_neg (by omega)]
  refine ⟨fun h2 => by rw [if_pos (by simpa using h2)], fun h2 => ?_⟩
  have h2 : ¬ l.length = 0 := by simpa using h2
  rw [if_neg h2]
  refine W.call (p_tree (l := l) (by omega) 17 0 0 0 (by omega) (by omega) (by omega)) ?_
  rintro _ rfl
  simp only [W.cond, W.ret, ltB_iff, ltB_not]
  refine ⟨fun h3 => by rw [if_pos (by simpa using h3)], fun h3 => ?_⟩
  rw [if_neg (by simpa using h3)]
  exact ⟨fun h4 => by rw [if_pos (by omega)], fun h4 => by rw [if_neg (by omega)]⟩
theorem w_rcheck (l : List pred_Node) (hk : okN l) : W (fun N => s_ref11_Check N l) (· = chk l) := by
  simp only [s_ref11_Check, chk, W.cond, ltB_iff, ltB_not, W.ret]
  refine ⟨fun h => by rw [if_pos (by omega)], fun h => ?_⟩
  rw [if_neg (by omega)]
  refine ⟨fun h2 => by rw [if_pos (by simpa using h2)], fun h2 => ?_⟩
  have h2 : ¬ l.length = 0 := by simpa using h2
  rw [if_neg h2]
  refine W.call (r_tree (l := l) (by omega) hk 17 0 0 0 (by omega) (by omega) (by omega)) ?_
  rintro _ rfl
  simp only [W.cond, W.ret, ltB_iff, ltB_not]
  refine ⟨fun h3 => by rw [if_pos (by simpa using h3)], fun h3 => ?_⟩
  rw [if_neg (by simpa using h3)]
  exact ⟨fun h4 => by rw [if_pos (by omega)], fun h4 => by rw [if_neg (by omega)]⟩
def okT (y : List lex_Token) : Prop := ∀ t ∈ y, 0 ≤ t.Val.Bits ∧ t.Val.Bits ≤ 18446744073709551615
def oL : RR → Prop
  | .inl _ => True
  | .inr (l, _) => okN l
theorem tk_ok {y : List lex_Token} (h : okT y) (i : Nat) : 0 ≤ (tk y i).Val.Bits ∧ (tk y i).Val.Bits ≤ 18446744073709551615 := by
  by_cases hi : i < y.length
  · exact h _ (List.mem_of_getElem? (ix_at hi).2)
  · rw [tk_out hi]; exact ⟨by decide, by decide⟩
theorem okN_one {n : pred_Node} (h : 0 ≤ n.Val.Bits ∧ n.Val.Bits ≤ 18446744073709551615) : okN [n] := fun m hm => by
  simp only [List.mem_singleton] at hm; rw [hm]; exact h
theorem okN_app {a b : List pred_Node} (h : okN a) (g : okN b) : okN (a ++ b) := fun m hm => by
  rcases List.mem_append.1 hm with h1 | h1
  · exact h m h1
  · exact g m h1
theorem okN_cons {n : pred_Node} {b : List pred_Node} (h : 0 ≤ n.Val.Bits ∧ n.Val.Bits ≤ 18446744073709551615) (g : okN b) : okN (n :: b) := okN_app (okN_one h) g
theorem z_ok : 0 ≤ (⟨0, 0, 0, []⟩ : value_Value).Bits ∧ (⟨0, 0, 0, []⟩ : value_Value).Bits ≤ 18446744073709551615 := ⟨by decide, by decide⟩
theorem UR_l {y : List lex_Token} (h : okT y) (i : Nat) : oL (UR y i) := by
  unfold UR U
  by_cases h1 : isT' y i 4 [45] = true
  · rw [if_pos h1]
    by_cases h2 : (tk y (i + 1)).Val.Kind = 1 ∧ (tk y (i + 1)).Kind = 3
    · rw [if_pos h2]; exact okN_one (tk_ok h (i + 1))
    · rw [if_neg h2]; trivial
  rw [if_neg h1]
  by_cases h2 : (tk y i).Kind = 3
  · rw [if_pos h2]; exact okN_one (tk_ok h i)
  rw [if_neg h2]
  by_cases h3 : (tk y i).Kind = 1
  · rw [if_pos h3]
    by_cases h4 : isT' y (i + 1) 4 [46] = true
    · rw [if_pos h4]
      by_cases h5 : (tk y (i + 2)).Kind = 1
      · rw [if_pos h5]; exact okN_one z_ok
      · rw [if_neg h5]; trivial
    · rw [if_neg h4]; exact okN_one z_ok
  · rw [if_neg h3]; trivial
theorem lpG_l {f : Nat → RR} {sep : Nat → Option Int} (hf : ∀ j, oL (f j)) : ∀ (n : Nat) (l : List pred_Node) (j : Nat), okN l → oL (lpG f sep n l j)
  | 0, l, j, h => h
  | n + 1, l, j, h => by
    cases hs : sep j with
    | none => rw [lpG_end hs]; exact h
    | some k =>
      have := hf (j + 1)
      cases g : f (j + 1) with
      | inl x => rw [lpG_inl hs g]; trivial
      | inr p =>
        rw [g] at this
        rw [lpG_inr (r := p.1) (j' := p.2) hs g]
        exact lpG_l hf n _ _ (okN_cons z_ok (okN_app h this))
theorem rowS_l {y : List lex_Token} {f : Nat → RR} {sep : Nat → Option Int} (hf : ∀ j, oL (f j)) (i : Nat) : oL (rowS y f sep i) := by
  have := hf i
  unfold rowS
  cases h : f i with
  | inl x => trivial
  | inr p => rw [h] at this; exact lpG_l hf _ _ _ this
theorem SU_l {y : List lex_Token} (h : okT y) (i : Nat) : oL (SU y i) := by
  have := UR_l h i
  unfold SU
  cases g : UR y i with
  | inl x => trivial
  | inr p => rw [g] at this; exact lpG_l (UR_l h) _ _ _ this
theorem SPP_l {y : List lex_Token} (h : okT y) : ∀ n : Nat, (∀ d i, oL ((SPP y n).1 d i)) ∧ (∀ d i, oL ((SPP y n).2.1 d i)) ∧ (∀ d i, oL ((SPP y n).2.2 d i))
  | 0 => ⟨fun _ _ => trivial, fun _ _ => trivial, fun _ _ => trivial⟩
  | n + 1 => by
    obtain ⟨io, ia, ip⟩ := SPP_l h n
    refine ⟨fun d i => rowS_l (ia d) i, fun d i => rowS_l (ip d) i, fun d i => ?_⟩
    show oL (partS y (SPP y n) d i)
    unfold partS
    by_cases hk : isT' y i 2 nt = true ∨ isT' y i 4 [40] = true
    · rw [if_pos hk]
      by_cases hd : 16 ≤ d
      · rw [if_pos hd]; trivial
      rw [if_neg hd]
      by_cases h1 : isT' y i 2 nt = true
      · rw [if_pos h1]
        have := ip (d + 1) (i + 1)
        cases g : (SPP y n).2.2 (d + 1) (i + 1) with
        | inl x => trivial
        | inr q => rw [g] at this; exact okN_cons z_ok this
      · rw [if_neg h1]
        have := io (d + 1) (i + 1)
        cases g : (SPP y n).1 (d + 1) (i + 1) with
        | inl x => trivial
        | inr q =>
          rw [g] at this
          by_cases h2 : isT' y q.2 4 [41] = true
          · simp only [if_pos h2]; exact this
          · simp only [if_neg h2]; trivial
    · rw [if_neg hk]
      have := SU_l h i
      cases g : SU y i with
      | inl x => trivial
      | inr q =>
        rw [g] at this
        by_cases h2 : (tk y q.2).Kind = 4 ∧ opV (tk y q.2).Text ≠ 0
        · simp only [if_pos h2]
          have h3 := SU_l h (q.2 + 1)
          cases g2 : SU y (q.2 + 1) with
          | inl x => trivial
          | inr r => rw [g2] at h3; exact okN_cons z_ok (okN_app this h3)
        · simp only [if_neg h2]; trivial
/-- What both parses tell, from a token on. -/
def PAR (y : List lex_Token) (b : Nat) (e : Int) : (Int × Int) ⊕ (List pred_Node × Nat) := match (SPP y 51).1 0 b with
  | .inl (c, j) => .inl (c, plc y e j)
  | .inr (l, j) => if chk l = 0 then .inr (l, j) else .inl (chk l, plc y e b)
theorem w_Parse {y : List lex_Token} {b : Nat} {e : Int} (hy : y.length ≤ 700) (hb : b ≤ y.length) : W (fun N => s_predtext_Parse N y b e) (· = match PAR y b e with
    | .inl (c, a) => .inr ([], 0, c, a)
    | .inr (l, j) => .inl (l, (j : Int))) := by
  have hpl : ∀ N, s_predtext_parser_place_v424 N y b e = some (plc y e b, y, (b : Int), e) := fun N => place_eq (i := b)
  simp only [s_predtext_Parse, show ltB (b : Int) 0 = false from ltB_not.2 (by omega), cond_false, show ltB (y.length : Int) b = false from ltB_not.2 (by omega), hpl, Option.bind_some]
  obtain ⟨ok, hw⟩ := (p_all (e := e) hy 51).1 0 b (by omega) (by omega) (by omega) (by omega)
  refine W.bind (show W (fun N => s_predtext_parser_or_v927 N 0 y b e) _ from hw) ?_
  rintro _ rfl
  unfold PAR
  cases h : (SPP y 51).1 0 b with
  | inl x =>
    rw [h] at ok
    have hc : x.1 ≠ 0 := ok.1
    simp only [enP, Sum.elim_inl, show (x.1 != 0) = true by simpa using hc, gd_true, W.ret]
  | inr p =>
    simp only [enP, Sum.elim_inr]
    refine W.call (w_check p.1) ?_
    rintro _ rfl
    by_cases hz : chk p.1 = 0
    · simp only [hz, show ((0 : Int) != 0) = false from rfl, cond_false, W.ret, if_true]
    · simp only [show (chk p.1 != 0) = true by simpa using hz, cond_true, W.ret, if_neg hz]
theorem w_rParse {y : List lex_Token} {b : Nat} {e : Int} (hy : y.length ≤ 700) (hb : b ≤ y.length) (ht : okT y) : W (fun N => s_ref12_Parse N y b e) (· = match PAR y b e with
    | .inl (c, a) => ([], 0, ⟨c, a⟩)
    | .inr (l, j) => (l, (j : Int), ⟨0, 0⟩)) := by
  have hpl : ∀ N, s_ref12_place N ⟨y, b, e, ⟨0, 0⟩⟩ = some (plc y e b) := fun N => rplace_eq (i := b)
  simp only [s_ref12_Parse, show ltB (b : Int) 0 = false from ltB_not.2 (by omega), cond_false, show ltB (y.length : Int) b = false from ltB_not.2 (by omega), hpl, Option.bind_some]
  obtain ⟨ok, hw⟩ := (r_all (e := e) hy 51).1 0 b (by omega) (by omega) (by omega) (by omega)
  have hl := (SPP_l ht 51).1 0 b
  refine W.bind (show W (fun N => s_ref12_or N ⟨y, b, e, ⟨0, 0⟩⟩ 0) _ from hw) fun u hu => ?_
  unfold PAR
  cases h : (SPP y 51).1 0 b with
  | inl x =>
    rw [h] at ok hu
    have hc : x.1 ≠ 0 := ok.1
    obtain ⟨k, hu2, _⟩ := hu
    rw [hu2]
    simp only [show ((fS y e x.1 x.2 k).F.E != 0) = true by simpa [fS] using hc, cond_true, W.ret]; rfl
  | inr p =>
    rw [h] at hu hl
    obtain rfl : u = (p.1, oS y e p.2) := hu
    simp only [show ((oS y e p.2).F.E != 0) = false from rfl, cond_false]
    refine W.call (w_rcheck p.1 hl) ?_
    rintro _ rfl
    by_cases hz : chk p.1 = 0
    · simp only [hz, show ((0 : Int) != 0) = false from rfl, cond_false, W.ret, if_true]; rfl
    · simp only [show (chk p.1 != 0) = true by simpa using hz, cond_true, W.ret, if_neg hz]
def zv : value_Value := ⟨0, 0, 0, []⟩
def isS (c : UInt8) : Bool := leB 97 (c.toNat : Int) && leB (c.toNat : Int) 122
def isD (c : UInt8) : Bool := leB 48 (c.toNat : Int) && leB (c.toNat : Int) 57
def isT (c : UInt8) : Bool := isS c || isD c || ((c.toNat : Int) == 95)
def isG (c : UInt8) : Bool := leB 0 (Lib.indexByte [40, 41, 91, 93, 123, 125, 59, 124, 33, 58, 44, 46, 43, 42, 63, 45, 61, 60, 62] c)
def isC (c : UInt8) : Bool := leB 0 (Lib.indexByte [33, 60, 62] c)
def known (c : UInt8) : Bool := isS c || isD c || ((c.toNat : Int) == 35) || ((c.toNat : Int) == 39) || isG c
def blank (c : UInt8) : Bool := ((c.toNat : Int) == 32) || ((c.toNat : Int) == 9) || ((c.toNat : Int) == 10)
/-- What a digit to the base 16 is worth. -/
def hx (c : UInt8) : Option Nat := if isD c then some (c.toNat - 48) else if leB 97 (c.toNat : Int) && leB (c.toNat : Int) 102 then some (c.toNat - 87) else none
/-- A token (kind, text, value, length), or what is wrong, and how far from its begin. -/
abbrev R1 := (Int × List UInt8 × value_Value × Nat) ⊕ (Int × Nat)
def resl : List (List UInt8) := [[119, 105, 116, 104, 105, 110], [98, 121], [97, 110, 100], [111, 114], [110, 111, 116], [97, 110, 121], [110, 101, 120, 116], [115, 116, 114, 105, 99, 116], [116, 114, 117, 101], [102, 97, 108, 115, 101]]
def resv (s : List UInt8) : Bool := resl.any (s == ·)
def wordR (w : List UInt8) : R1 :=
  if w = [116, 114, 117, 101] then .inl (3, [], ⟨2, 1, 0, []⟩, w.length)
  else if w = [102, 97, 108, 115, 101] then .inl (3, [], ⟨2, 0, 0, []⟩, w.length)
  else if resv w then .inl (2, w, zv, w.length)
  else if 12 < w.length then .inr (5, 0)
  else .inl (1, w, zv, w.length)
def numv : Nat → List UInt8 → Option Nat
  | v, [] => some v
  | v, c :: t => if (4611686018427387904 - (c.toNat - 48)) / 10 < v then none else numv (10 * v + (c.toNat - 48)) t
def numR (w : List UInt8) : R1 :=
  if 1 < w.length ∧ w.head? = some 48 then .inr (4, 0)
  else match numv 0 w with
    | none => .inr (8, 0)
    | some v => .inl (3, [], ⟨1, (v : Int), 0, []⟩, w.length)
def hexv : Nat → List UInt8 → Option Nat
  | u, [] => some u
  | u, c :: t => match hx c with
    | none => none
    | some d => hexv (16 * u + d) t
def dblR (t : List UInt8) : R1 :=
  if t.length < 16 then .inr (4, 0) else match hexv 0 (t.take 16) with
    | none => .inr (4, 0)
    | some u => if cln (u : Int) = (u : Int) then .inl (3, [], ⟨3, 0, (u : Int), []⟩, 17) else .inr (4, 0)
def quoR : List UInt8 → Nat → List UInt8 → R1
  | [], _, _ => .inr (3, 0)
  | c :: t, off, b =>
    if c.toNat < 32 ∨ 126 < c.toNat then .inr (10, off)
    else if c = 92 then match t with
      | x :: y :: t => match hx x, hx y with
        | some h, some l => quoR t (off + 3) (b ++ [UInt8.ofNat (16 * h + l)])
        | _, _ => .inr (4, off)
      | _ => .inr (4, off)
    else if c = 39 then match t with
      | x :: t => if x = 39 then quoR t (off + 2) (b ++ [39]) else if 24 < b.length then .inr (5, 0) else .inl (3, [], ⟨4, 0, 0, b⟩, off + 1)
      | [] => if 24 < b.length then .inr (5, 0) else .inl (3, [], ⟨4, 0, 0, b⟩, off + 1)
    else quoR t (off + 1) (b ++ [c])
theorem quoR_nil (off : Nat) (b : List UInt8) : quoR [] off b = .inr (3, 0) := by rw [quoR.eq_def]
theorem quoR_cons (c : UInt8) (t : List UInt8) (off : Nat) (b : List UInt8) : quoR (c :: t) off b =
    if c.toNat < 32 ∨ 126 < c.toNat then .inr (10, off)
    else if c = 92 then match t with
      | x :: y :: t => match hx x, hx y with
        | some h, some l => quoR t (off + 3) (b ++ [UInt8.ofNat (16 * h + l)])
        | _, _ => .inr (4, off)
      | _ => .inr (4, off)
    else if c = 39 then match t with
      | x :: t => if x = 39 then quoR t (off + 2) (b ++ [39]) else if 24 < b.length then .inr (5, 0) else .inl (3, [], ⟨4, 0, 0, b⟩, off + 1)
      | [] => if 24 < b.length then .inr (5, 0) else .inl (3, [], ⟨4, 0, 0, b⟩, off + 1)
    else quoR t (off + 1) (b ++ [c]) := by rw [quoR.eq_def]
def signR (c : UInt8) (t : List UInt8) : R1 :=
  if isC c ∧ t.head? = some 61 then .inl (4, [c, 61], zv, 2) else .inl (4, [c], zv, 1)
/-- The token that a text begins with. -/
def oneR : List UInt8 → R1
  | [] => .inr (10, 0)
  | c :: t => if isS c then wordR ((c :: t).takeWhile isT)
    else if isD c then numR ((c :: t).takeWhile isD)
    else if (c.toNat : Int) == 35 then dblR t
    else if (c.toNat : Int) == 39 then quoR t 1 []
    else if isG c then signR c t
    else .inr (10, 0)
def scanR (r : List UInt8) (p : Nat) (out : List lex_Token) : List lex_Token ⊕ (Int × Int) :=
  match r with
  | [] => .inl out
  | c :: t => if blank c then scanR t (p + 1) out
    else if known c && decide (out.length = 200) then .inr (7, (p : Int))
    else match oneR (c :: t) with
      | .inr (e, o) => .inr (e, ((p + o : Nat) : Int))
      | .inl (k, x, v, m) => scanR (t.drop (m - 1)) (p + m) (out ++ [⟨k, (p : Int), x, v⟩])
termination_by r.length
def scan (s : List UInt8) : List lex_Token ⊕ (Int × Int) := if 600 < s.length then .inr (5, 0) else scanR s 0 []
/-! ### Small facts -/
theorem small_c (c : UInt8) (N : Nat) : s_lex_small N (c.toNat : Int) = some (isS c) := by
  simp only [s_lex_small, isS]; cases leB 97 (c.toNat : Int) <;> rfl
theorem digit_c (c : UInt8) (N : Nat) : s_lex_digit N (c.toNat : Int) = some (isD c) := by
  simp only [s_lex_digit, isD]; cases leB 48 (c.toNat : Int) <;> rfl
theorem tail_c (c : UInt8) (N : Nat) : s_lex_tail N (c.toNat : Int) = some (isT c) := by
  simp only [s_lex_tail, small_c, digit_c, Option.bind_some, isT]
  cases isS c <;> cases isD c <;> rfl
theorem byte_all {P : UInt8 → Prop} (h : ∀ n : Fin 256, P (UInt8.ofNat n.val)) (c : UInt8) : P c := by
  have := h ⟨c.toNat, c.toNat_lt⟩
  simpa using this
theorem ofN (c : UInt8) : UInt8.ofNat (Int.toNat (c.toNat : Int)) = c := by simp
theorem hx_ix : ∀ c : UInt8, Lib.indexByte [48, 49, 50, 51, 52, 53, 54, 55, 56, 57, 97, 98, 99, 100, 101, 102] c = match hx c with
    | none => -1
    | some d => (d : Int) := byte_all (by decide +kernel)
theorem hx_lt {c : UInt8} {d : Nat} (h : hx c = some d) : d < 16 := by
  unfold hx at h
  split at h
  · rename_i hd
    simp only [isD, Bool.and_eq_true, leB_iff] at hd
    cases h; omega
  · split at h
    · rename_i hd
      simp only [Bool.and_eq_true, leB_iff] at hd
      cases h; omega
    · cases h
theorem base_c (c : UInt8) (N : Nat) : s_lex_base16 N (c.toNat : Int) = some (match hx c with | none => -1 | some d => (d : Int)) := by
  simp only [s_lex_base16, s_strings_IndexByte, s_stringslite_IndexByte, Option.bind_some, ofN, hx_ix]
theorem index_c (l : List UInt8) (c : UInt8) (N : Nat) : s_strings_IndexByte N l (c.toNat : Int) = some (Lib.indexByte l c) := by
  simp only [s_strings_IndexByte, s_stringslite_IndexByte, Option.bind_some, ofN]
theorem reserved_c (s : List UInt8) (N : Nat) : s_schema_Reserved N s = some (resv s) := by
  have e2 : ∀ (b r : Bool), (bif b then some true else some r) = some (b || r) := by intro b r; cases b <;> rfl
  have e3 : ∀ (b r r' : Bool), (bif b then some (b || r') else some r) = some (b || r) := by intro b r r'; cases b <;> rfl
  have e4 : ∀ (b r : Bool), (bif b then some b else some r) = some (b || r) := by intro b r; cases b <;> rfl
  unfold s_schema_Reserved
  simp only [resv, resl, List.any_cons, List.any_nil, e2, e3, e4, Bool.or_false]
theorem tw_le {α : Type} (p : α → Bool) : ∀ r : List α, (r.takeWhile p).length ≤ r.length
  | [] => Nat.le_refl _
  | x :: r => by
    have := tw_le p r
    simp only [List.takeWhile_cons]
    split <;> simp; omega
theorem tw_at {α : Type} {p : α → Bool} : ∀ {r : List α} {k : Nat} {e : α}, k ≤ (r.takeWhile p).length → r[k]? = some e → p e = decide (k < (r.takeWhile p).length)
  | [], _, _, _, h => by simp at h
  | x :: r, 0, e, _, h => by
    simp only [List.getElem?_cons_zero, Option.some.injEq] at h
    subst h
    simp only [List.takeWhile_cons]
    cases p x <;> simp
  | x :: r, k + 1, e, hk, h => by
    simp only [List.getElem?_cons_succ] at h
    simp only [List.takeWhile_cons] at hk ⊢
    cases hx : p x with
    | false => simp [hx] at hk
    | true =>
      simp only [hx, if_true, List.length_cons, Nat.add_le_add_iff_right, Nat.add_lt_add_iff_right] at hk ⊢
      exact tw_at hk h
theorem tw_take {α : Type} (p : α → Bool) : ∀ r : List α, r.take (r.takeWhile p).length = r.takeWhile p
  | [] => rfl
  | x :: r => by
    simp only [List.takeWhile_cons]
    split
    · simp [tw_take p r]
    · rfl
theorem ix_drop {y : List UInt8} {a k : Nat} {e : UInt8} (h : (y.drop a)[k]? = some e) : ix y ((a : Int) + (k : Int)) = some e := by
  rw [show (a : Int) + (k : Int) = ((a + k : Nat) : Int) by omega, ix_nat', ← h, List.getElem?_drop]
theorem drop_get {y : List UInt8} {a k : Nat} (h : a + k < y.length) : ∃ e, (y.drop a)[k]? = some e := by
  rw [List.getElem?_drop]; exact ⟨y[a + k], List.getElem?_eq_getElem h⟩
theorem w_len_T (y : List UInt8) (a : Nat) (xs : List lex_Token) (ha : a ≤ y.length) (hy : y.length ≤ 700) :
    W (fun N => s_lex_scanner_length_v869 N y a xs) (· = ((((y.drop a).takeWhile isT).length : Int), y, (a : Int), xs)) := by
  have hl := tw_le isT (y.drop a)
  rw [List.length_drop] at hl
  simp only [s_lex_scanner_length_v869]
  refine W.lp1 (fun v : Int => ∃ k : Nat, v = k ∧ k ≤ ((y.drop a).takeWhile isT).length) (fun v : Int => ((y.drop a).takeWhile isT).length - v.toNat) ⟨0, rfl, Nat.zero_le _⟩ ?_
  rintro F v ⟨k, rfl, hk⟩ hn
  simp only [s_lex_scanner_length_v869_1, W.gd, W.cond, i64b_eq, ltB_iff, ltB_not, W.ret]
  refine ⟨by omega, fun h => ⟨by omega, ?_⟩, fun h => by rw [show k = ((y.drop a).takeWhile isT).length by omega]⟩
  obtain ⟨e, he⟩ := drop_get (y := y) (a := a) (k := k) (by omega)
  have hp := tw_at hk he
  simp only [ix_drop he, Option.bind_some, tail_c, hp, W.cond, W.gd, decide_eq_true_eq, decide_eq_false_iff_not, W.ret, i64b_eq]
  refine ⟨fun h2 => ⟨by omega, hn _ ⟨k + 1, by omega, h2⟩ (by omega)⟩, fun h2 => by rw [show k = ((y.drop a).takeWhile isT).length by omega]⟩
theorem w_len_D (y : List UInt8) (a : Nat) (xs : List lex_Token) (ha : a ≤ y.length) (hy : y.length ≤ 700) :
    W (fun N => s_lex_scanner_length_v416 N y a xs) (· = ((((y.drop a).takeWhile isD).length : Int), y, (a : Int), xs)) := by
  have hl := tw_le isD (y.drop a)
  rw [List.length_drop] at hl
  simp only [s_lex_scanner_length_v416]
  refine W.lp1 (fun v : Int => ∃ k : Nat, v = k ∧ k ≤ ((y.drop a).takeWhile isD).length) (fun v : Int => ((y.drop a).takeWhile isD).length - v.toNat) ⟨0, rfl, Nat.zero_le _⟩ ?_
  rintro F v ⟨k, rfl, hk⟩ hn
  simp only [s_lex_scanner_length_v416_1, W.gd, W.cond, i64b_eq, ltB_iff, ltB_not, W.ret]
  refine ⟨by omega, fun h => ⟨by omega, ?_⟩, fun h => by rw [show k = ((y.drop a).takeWhile isD).length by omega]⟩
  obtain ⟨e, he⟩ := drop_get (y := y) (a := a) (k := k) (by omega)
  have hp := tw_at hk he
  simp only [ix_drop he, Option.bind_some, digit_c, hp, W.cond, W.gd, decide_eq_true_eq, decide_eq_false_iff_not, W.ret, i64b_eq]
  refine ⟨fun h2 => ⟨by omega, hn _ ⟨k + 1, by omega, h2⟩ (by omega)⟩, fun h2 => by rw [show k = ((y.drop a).takeWhile isD).length by omega]⟩
/-- What is told behind a token: text, place, tokens; or an error and its place. -/
abbrev St3 := List UInt8 × Int × List lex_Token
abbrev Ft := Int × Int × List UInt8 × Int × List lex_Token
def finA : St3 ⊕ Ft ⊕ St3 → St3 ⊕ (Int × Int)
  | .inl x => .inl x
  | .inr (.inl f) => .inr (f.1, f.2.1)
  | .inr (.inr x) => .inl x
def finW : St3 ⊕ St3 ⊕ Ft → St3 ⊕ (Int × Int)
  | .inl x => .inl x
  | .inr (.inl x) => .inl x
  | .inr (.inr f) => .inr (f.1, f.2.1)
def stepR (y : List UInt8) (a : Nat) (xs : List lex_Token) : R1 → St3 ⊕ (Int × Int)
  | .inl (k, x, v, m) => .inl (y, ((a + m : Nat) : Int), xs ++ [⟨k, (a : Int), x, v⟩])
  | .inr (e, o) => .inr (e, ((a + o : Nat) : Int))
theorem w_put (n : Nat) (k : Int) (x : List UInt8) (v : value_Value) (y : List UInt8) (a : Nat) (xs : List lex_Token) (h1 : a ≤ 700) (h2 : n ≤ 700) (h3 : xs.length ≤ 700) :
    W (fun N => s_lex_scanner_put_v420 N (n : Int) k x v y a xs) (· = (y, ((a + n : Nat) : Int), xs ++ [⟨k, (a : Int), x, v⟩])) := by
  simp only [s_lex_scanner_put_v420, W.gd, W.ret, i64b_eq]
  refine ⟨Nat.ble_eq_true_of_le (by omega), by omega, ?_⟩
  rw [show ((a + n : Nat) : Int) = (a : Int) + (n : Int) by omega]
theorem fail_c (e : Int) (he : (e == 0) = false) (y : List UInt8) (a : Int) (xs : List lex_Token) (N : Nat) : s_lex_scanner_fail_v359 N e y a xs = some (.inr (e, a, y, a, xs)) := by
  simp only [s_lex_scanner_fail_v359, s_fault_New, he, cond_false, Option.bind_some, Sum.elim_inr]
theorem w_word (y : List UInt8) (a : Nat) (xs : List lex_Token) (ha : a ≤ y.length) (hy : y.length ≤ 700) (hx : xs.length ≤ 700) :
    W (fun N => s_lex_scanner_word_v558 N y a xs) fun r => finW r = stepR y a xs (wordR ((y.drop a).takeWhile isT)) := by
  have hl := tw_le isT (y.drop a)
  rw [List.length_drop] at hl
  simp only [s_lex_scanner_word_v558]
  refine W.call (w_len_T y a xs ha hy) ?_
  rintro _ rfl
  have hw : List.drop (Int.toNat (a : Int)) (List.take (Int.toNat ((a : Int) + (((y.drop a).takeWhile isT).length : Nat))) y) = (y.drop a).takeWhile isT := by
    rw [show Int.toNat ((a : Int) + (((y.drop a).takeWhile isT).length : Nat)) = a + ((y.drop a).takeWhile isT).length by omega, Int.toNat_natCast, List.drop_take, Nat.add_sub_cancel_left]
    exact tw_take _ _
  simp only [W.gd, W.cond, W.ret, i64b_eq, leB_iff, hw]
  generalize (y.drop a).takeWhile isT = w at *
  have put : ∀ {ι : Type} [Lim ι] (N : ι → Nat) [Tends N] (k : Int) (x : List UInt8) (v : value_Value), wordR w = .inl (k, x, v, w.length) → W (fun i => (s_lex_scanner_put_v420 (N i) (w.length : Nat) k x v y a xs).bind fun p => some (.inl (p.1, p.2.1, p.2.2) : St3 ⊕ St3 ⊕ Ft)) fun r => finW r = stepR y a xs (wordR w) := fun N _ k x v he => by
    refine W.call (w_put _ _ _ _ _ _ _ (by omega) (by omega) hx) ?_
    rintro _ rfl
    rw [he]; exact W.ret.2 rfl
  refine ⟨by omega, by omega, by omega, by omega, fun h => ?_, fun h => ⟨fun h2 => ?_, fun h2 => ?_⟩⟩
  · have h := eq_of_beq h
    subst h
    exact put _ 3 [] ⟨2, 1, 0, []⟩ rfl
  · have h2 := eq_of_beq h2
    subst h2
    exact put _ 3 [] ⟨2, 0, 0, []⟩ rfl
  · have h : ¬ w = [116, 114, 117, 101] := by simpa using h
    have h2 : ¬ w = [102, 97, 108, 115, 101] := by simpa using h2
    simp only [reserved_c, Option.bind_some, W.cond]
    refine ⟨fun h3 => put _ 2 w zv (by rw [wordR, if_neg h, if_neg h2, if_pos h3]), fun h3 => ⟨fun h4 => ?_, fun h4 => put _ 1 w zv ?_⟩⟩
    · have h4 := ltB_iff.1 h4
      simp only [fail_c 5 rfl, Option.bind_some, Sum.elim_inr, W.ret]
      rw [wordR, if_neg h, if_neg h2, if_neg (by simp [h3]), if_pos (by omega)]; rfl
    · have h4 := ltB_not.1 h4
      rw [wordR, if_neg h, if_neg h2, if_neg (by simp [h3]), if_neg (by omega)]
theorem tw_get {α : Type} {p : α → Bool} : ∀ {r : List α} {k : Nat}, k < (r.takeWhile p).length → (r.takeWhile p)[k]? = r[k]?
  | [], k, h => by simp at h
  | x :: r, k, h => by
    cases hx : p x with
    | false => simp [List.takeWhile_cons, hx] at h
    | true =>
      simp only [List.takeWhile_cons, hx, if_true, List.length_cons] at h ⊢
      cases k with
      | zero => rfl
      | succ k =>
        simp only [List.getElem?_cons_succ]
        exact tw_get (by omega)
theorem drop_eq {α : Type} {l : List α} {k : Nat} {e : α} (h : l[k]? = some e) : l.drop k = e :: l.drop (k + 1) := by
  obtain ⟨h1, h2⟩ := List.getElem?_eq_some_iff.1 h
  rw [List.drop_eq_getElem_cons h1, h2]
theorem isD_iff {c : UInt8} : isD c = true ↔ 48 ≤ c.toNat ∧ c.toNat ≤ 57 := by
  simp only [isD, Bool.and_eq_true, leB_iff]; omega
theorem w_number (y : List UInt8) (a : Nat) (xs : List lex_Token) (ha : a < y.length) (hy : y.length ≤ 700) (hx : xs.length ≤ 700) :
    W (fun N => s_lex_scanner_number_v558 N y a xs) fun r => finA r = stepR y a xs (numR ((y.drop a).takeWhile isD)) := by
  have hl := tw_le isD (y.drop a)
  rw [List.length_drop] at hl
  simp only [s_lex_scanner_number_v558]
  refine W.call (w_len_D y a xs (Nat.le_of_lt ha) hy) ?_
  rintro _ rfl
  have hD : ∀ k, k < ((y.drop a).takeWhile isD).length → ∃ e, ((y.drop a).takeWhile isD)[k]? = some e ∧ (y.drop a)[k]? = some e ∧ isD e = true := fun k hk => by
    obtain ⟨e, he⟩ := drop_get (y := y) (a := a) (k := k) (by omega)
    exact ⟨e, (tw_get hk).trans he, he, by rw [tw_at (Nat.le_of_lt hk) he]; exact decide_eq_true hk⟩
  generalize (y.drop a).takeWhile isD = w at *
  have loop : ¬ (1 < w.length ∧ w.head? = some 48) → ∀ {ι : Type} [Lim ι] (N : ι → Nat) [Tends N], W (fun i => lp2 (s_lex_scanner_number_v558_1 (N i) (w.length : Int) (w.length : Int) y (a : Int) xs) (N i) 0 0) fun r => finA r = stepR y a xs (numR w) := fun h0 {ι} _ N _ => by
    have key : ∀ v, numv 0 w = v → numR w = match v with
        | none => .inr (8, 0)
        | some v => .inl (3, [], ⟨1, (v : Int), 0, []⟩, w.length) := fun v hv => by rw [numR, if_neg h0, hv] <;> cases v <;> rfl
    refine W.lp2 (fun v x => ∃ V k : Nat, v = (V : Int) ∧ x = (k : Int) ∧ k ≤ w.length ∧ V ≤ 4611686018427387904 ∧ numv 0 w = numv V (w.drop k)) (fun _ x => w.length - x.toNat) ⟨0, 0, rfl, rfl, Nat.zero_le _, by omega, rfl⟩ ?_
    rintro F v x ⟨V, k, rfl, rfl, hk, hV, hv⟩ hn
    simp only [s_lex_scanner_number_v558_1, W.cond, W.gd, ltB_iff, ltB_not, i64b_eq]
    refine ⟨fun hlt => ⟨by omega, ?_⟩, fun hge => ?_⟩
    · obtain ⟨e, he1, he2, he3⟩ := hD k (by omega)
      have h48 := isD_iff.1 he3
      have e1 : IntKind.i64.wrap (IntKind.u8.wrap ((e.toNat : Int) - 48)) = ((e.toNat - 48 : Nat) : Int) := by rw [IntKind.wrap_u8, IntKind.wrap_i64]; omega
      have e2 : IntKind.i64.wrap (Int.tdiv (4611686018427387904 - ((e.toNat - 48 : Nat) : Int)) 10) = (((4611686018427387904 - (e.toNat - 48)) / 10 : Nat) : Int) := by
        rw [show (4611686018427387904 : Int) - ((e.toNat - 48 : Nat) : Int) = ((4611686018427387904 - (e.toNat - 48) : Nat) : Int) by omega]
        rw [show Int.tdiv ((4611686018427387904 - (e.toNat - 48) : Nat) : Int) 10 = (((4611686018427387904 - (e.toNat - 48)) / 10 : Nat) : Int) from rfl, IntKind.wrap_i64]
        omega
      rw [drop_eq he1, numv] at hv
      simp only [ix_drop he2, Option.bind_some, e1, e2, W.gd, W.cond, i64b_eq, ltB_iff, ltB_not]
      have hd : e.toNat - 48 ≤ 9 := by omega
      generalize e.toNat - 48 = d at *
      refine ⟨by omega, fun h => ?_, fun h => ?_⟩
      · rw [if_pos (by omega)] at hv
        simp only [fail_c 8 rfl, Option.bind_some, Sum.elim_inr, W.ret, key _ hv]
        rfl
      · rw [if_neg (by omega)] at hv
        refine ⟨by omega, by omega, by omega, hn _ _ ⟨10 * V + d, k + 1, by omega, by omega, by omega, by omega, hv⟩ (by omega)⟩
    · have hk : k = w.length := by omega
      rw [hk, List.drop_length, numv] at hv
      have e3 : max (-4611686018427387904) (min (V : Int) 4611686018427387904) = (V : Int) := by omega
      simp only [s_value_OfInt, Option.bind_some, e3]
      refine W.call (w_put w.length 3 [] _ y a xs (by omega) (by omega) hx) ?_
      rintro _ rfl
      rw [key _ hv]
      exact W.ret.2 rfl
  simp only [W.cond, ltB_iff, ltB_not]
  refine ⟨fun h => ?_, fun h => loop (by omega) _⟩
  obtain ⟨e, he1, he2, he3⟩ := hD 0 (by omega)
  have hh : w.head? = some e := by rw [← he1]; cases w <;> rfl
  have he2 := ix_drop he2
  rw [show (a : Int) + ((0 : Nat) : Int) = (a : Int) by omega] at he2
  simp only [he2, Option.bind_some, W.cond]
  refine ⟨fun h2 => ?_, fun h2 => loop ?_ _⟩
  · simp only [fail_c 4 rfl, Option.bind_some, Sum.elim_inr, W.ret]
    have h48 : e = 48 := by
      have := eq_of_beq h2
      exact UInt8.toNat_inj.1 (by simp only [UInt8.reduceToNat]; omega)
    rw [numR, if_pos ⟨by omega, by rw [hh, h48]⟩]; rfl
  · rintro ⟨_, h3⟩
    rw [hh] at h3
    cases h3
    exact absurd h2 (by decide)
theorem bwO4 {U d : Nat} (h : U * 16 < 18446744073709551616) (hd : d < 16) : bwO .u64 (IntKind.u64.wrap ((U : Int) * 2 ^ 4)) (IntKind.u64.wrap (d : Int)) = ((16 * U + d : Nat) : Int) := by
  have e1 : IntKind.u64.wrap ((U : Int) * 2 ^ 4) = ((2 ^ 4 * U : Nat) : Int) := by rw [IntKind.wrap_u64]; omega
  have e2 : IntKind.u64.wrap (d : Int) = (d : Int) := by rw [IntKind.wrap_u64]; omega
  rw [e1, e2]
  unfold bwO
  rw [BitVec.toNat_or, BitVec.toNat_ofInt, BitVec.toNat_ofInt]
  rw [show IntKind.u64.bits = 64 from rfl]
  rw [show (((2 ^ 4 * U : Nat) : Int) % ((2 ^ 64 : Nat) : Int)).toNat = 2 ^ 4 * U by omega, show ((d : Int) % ((2 ^ 64 : Nat) : Int)).toNat = d by omega]
  rw [← Nat.two_pow_add_eq_or_of_lt (by omega : d < 2 ^ 4), IntKind.wrap_u64]
  omega
theorem pow16 : ∀ k : Nat, k < 16 → 16 ^ k * 16 ≤ 18446744073709551616 := by
  intro k hk
  have : 16 ^ k ≤ 16 ^ 15 := Nat.pow_le_pow_right (by decide) (by omega)
  have h2 : (16 : Nat) ^ 15 = 1152921504606846976 := by decide
  omega
theorem w_double (y : List UInt8) (a : Nat) (xs : List lex_Token) (ha : a < y.length) (hy : y.length ≤ 700) (hx' : xs.length ≤ 700) :
    W (fun N => s_lex_scanner_double_v558 N y a xs) fun r => finA r = stepR y a xs (dblR (y.drop (a + 1))) := by
  simp only [s_lex_scanner_double_v558, W.gd, W.cond, i64b_eq, leB_iff, leB_not]
  refine ⟨by omega, fun h => ?_, fun h => ?_⟩
  · simp only [fail_c 4 rfl, Option.bind_some, Sum.elim_inr, W.ret]
    rw [dblR, if_pos (by rw [List.length_drop]; omega)]; rfl
  · have h0 : ¬ (y.drop (a + 1)).length < 16 := by rw [List.length_drop]; omega
    have key : ∀ v, hexv 0 ((y.drop (a + 1)).take 16) = v → dblR (y.drop (a + 1)) = match v with
        | none => .inr (4, 0)
        | some u => if cln (u : Int) = (u : Int) then .inl (3, [], ⟨3, 0, (u : Int), []⟩, 17) else .inr (4, 0) := fun v hv => by rw [dblR, if_neg h0, hv] <;> cases v <;> rfl
    refine W.lp2 (fun v x => ∃ U k : Nat, v = (U : Int) ∧ x = (k : Int) ∧ k ≤ 16 ∧ U < 16 ^ k ∧ hexv 0 ((y.drop (a + 1)).take 16) = hexv U (((y.drop (a + 1)).take 16).drop k)) (fun _ x => 16 - x.toNat) ⟨0, 0, rfl, rfl, Nat.zero_le _, by decide, rfl⟩ ?_
    rintro F v x ⟨U, k, rfl, rfl, hk, hU, hv⟩ hn
    simp only [s_lex_scanner_double_v558_1, W.cond, W.gd, ltB_iff, ltB_not, i64b_eq]
    refine ⟨fun hlt => ⟨by omega, by omega, ?_⟩, fun hge => ?_⟩
    · obtain ⟨e, he⟩ := drop_get (y := y) (a := a + 1) (k := k) (by omega)
      have he2 : ((y.drop (a + 1)).take 16)[k]? = some e := by rw [List.getElem?_take, if_pos (by omega)]; exact he
      have he3 := ix_drop he
      rw [show ((a + 1 : Nat) : Int) + (k : Int) = (a : Int) + 1 + (k : Int) by omega] at he3
      rw [drop_eq he2, hexv] at hv
      simp only [he3, Option.bind_some, base_c]
      cases hh : hx e with
      | none =>
        rw [hh] at hv
        simp only [show ltB (-1) 0 = true from rfl, cond_true, fail_c 4 rfl, Option.bind_some, Sum.elim_inr, W.ret, key _ hv]
        rfl
      | some d =>
        rw [hh] at hv
        have hd := hx_lt hh
        have hp := pow16 k (by omega)
        simp only [show ltB (d : Int) 0 = false from ltB_not.2 (by omega), cond_false, W.gd, i64b_eq]
        refine ⟨by omega, hn _ _ ⟨16 * U + d, k + 1, bwO4 (by omega) hd, by omega, by omega, ?_, hv⟩ (by omega)⟩
        rw [Nat.pow_succ]; omega
    · have hk : k = 16 := by omega
      have hnil : ((y.drop (a + 1)).take 16).drop 16 = [] := List.drop_eq_nil_of_le (by rw [List.length_take]; omega)
      rw [hk, hnil, hexv] at hv
      simp only [e_real_Clean, Option.bind_some, W.cond]
      refine ⟨fun hne => ?_, fun hne => ?_⟩
      · simp only [fail_c 4 rfl, Option.bind_some, Sum.elim_inr, W.ret, key _ hv]
        rw [if_neg (by simpa using hne)]; rfl
      · have hne : cln (U : Int) = (U : Int) := by simpa using hne
        simp only [s_value_OfReal, e_real_Clean, Option.bind_some, hne]
        refine W.call (w_put 17 3 [] _ y a xs (by omega) (by omega) hx') ?_
        rintro _ rfl
        simp only [key _ hv, hne, if_true]
        exact W.ret.2 rfl
theorem esc_val : ∀ h l : Fin 16, IntKind.u8.wrap (bwO .i64 (IntKind.i64.wrap ((h.val : Int) * 2 ^ 4)) (bwA .i64 (l.val : Int) 15)) = ((16 * h.val + l.val : Nat) : Int) := by decide +kernel
theorem w_escaped (y : List UInt8) (i : Nat) (a : Int) (xs : List lex_Token) (hi : i ≤ y.length) (hy : y.length ≤ 700) :
    W (fun N => s_lex_scanner_escaped_v359 N i y a xs) fun r => r.2.2 = (y, a, xs) ∧ match y.drop i with
      | p :: q :: _ => (match hx p, hx q with
        | some h, some l => r.2.1 = true ∧ r.1 = ((16 * h + l : Nat) : Int)
        | _, _ => r.2.1 = false)
      | _ => r.2.1 = false := by
  simp only [s_lex_scanner_escaped_v359, W.gd, W.cond, i64b_eq, ltB_iff, ltB_not, W.ret]
  refine ⟨by omega, fun h => ⟨trivial, ?_⟩, fun h => ?_⟩
  · have hl : (y.drop i).length < 2 := by rw [List.length_drop]; omega
    split
    · rename_i p q r he; rw [he] at hl; simp only [List.length_cons] at hl; omega
    · trivial
  · obtain ⟨p, hp⟩ := drop_get (y := y) (a := i) (k := 0) (by omega)
    obtain ⟨q, hq⟩ := drop_get (y := y) (a := i) (k := 1) (by omega)
    have e1 := drop_eq hp
    have e2 := drop_eq hq
    rw [List.drop_zero] at e1
    rw [e1, e2]
    have hp := ix_drop hp
    have hq := ix_drop hq
    rw [show (i : Int) + ((0 : Nat) : Int) = (i : Int) by omega] at hp
    rw [show (i : Int) + ((1 : Nat) : Int) = (i : Int) + 1 by omega] at hq
    simp only [hp, hq, Option.bind_some, base_c, W.gd, W.cond, W.ret, i64b_eq, true_and]
    refine ⟨by omega, ?_⟩
    cases h1 : hx p with
    | none => exact ⟨fun h => absurd h (by decide), fun _ => trivial⟩
    | some h =>
      cases h2 : hx q with
      | none => exact ⟨fun _ => rfl, fun _ => trivial⟩
      | some l =>
        have := esc_val ⟨h, hx_lt h1⟩ ⟨l, hx_lt h2⟩
        dsimp only at this ⊢
        exact ⟨fun _ => ⟨leB_iff.2 (Int.natCast_nonneg _), this⟩, fun h => absurd (leB_not.1 h) (Int.not_lt.2 (Int.natCast_nonneg _))⟩
theorem byS_snoc (b : List Int) (x : Int) : byS (b ++ [x]) = byS b ++ [UInt8.ofNat x.toNat] := by simp [byS]
theorem byS_len (b : List Int) : (byS b).length = b.length := by simp [byS]
theorem u8eq {c : UInt8} {n : Nat} (hn : n < 256) : ((c.toNat : Int) == (n : Int)) = decide (c = UInt8.ofNat n) := by
  by_cases h : c = UInt8.ofNat n
  · subst h
    rw [decide_eq_true rfl, beq_iff_eq]
    simp [Nat.mod_eq_of_lt hn]
  · rw [decide_eq_false h, beq_eq_false_iff_ne]
    intro h2
    refine h (UInt8.toNat_inj.1 ?_)
    simp [Nat.mod_eq_of_lt hn]
    omega
theorem w_quoted (y : List UInt8) (a : Nat) (xs : List lex_Token) (ha : a < y.length) (hy : y.length ≤ 700) (hx' : xs.length ≤ 700) :
    W (fun N => s_lex_scanner_quoted_v558 N y a xs) fun r => finA r = stepR y a xs (quoR (y.drop (a + 1)) 1 []) := by
  simp only [s_lex_scanner_quoted_v558, W.gd, i64b_eq]
  refine ⟨by omega, ?_⟩
  refine W.lp5 (fun i y3 y4 ys b => ∃ j : Nat, i = ((a + j : Nat) : Int) ∧ 1 ≤ j ∧ a + j ≤ y.length ∧ y3 = y ∧ y4 = (a : Int) ∧ ys = xs ∧ b.length ≤ j ∧ quoR (y.drop (a + 1)) 1 [] = quoR (y.drop (a + j)) j (byS b)) (fun i _ _ _ _ => y.length - i.toNat) ⟨1, by omega, Nat.le_refl _, by omega, rfl, rfl, rfl, by simp, rfl⟩ ?_
  rintro F i y3 y4 ys b ⟨j, rfl, hj, hl, rfl, rfl, rfl, hb, hq⟩ hn
  have done : ∀ (n : Nat), n = j + 1 → a + n ≤ y3.length → 24 ≥ b.length → quoR (y3.drop (a + 1)) 1 [] = .inl (3, [], ⟨4, 0, 0, byS b⟩, j + 1) →
      ∀ {ι : Type} [Lim ι] (N : ι → Nat) [Tends N], W (fun i => (s_value_OfText (N i) (byS b)).bind fun o => (s_lex_scanner_put_v420 (N i) (((a + j : Nat) : Int) + 1 - (a : Int)) 3 [] o y3 a ys).bind fun p => some (.inr (.inr (p.1, p.2.1, p.2.2)) : St3 ⊕ Ft ⊕ St3)) fun r => finA r = stepR y3 a ys (quoR (y3.drop (a + 1)) 1 []) := fun n hn h1 h2 h3 {ι} _ N _ => by
    have e1 : s_value_OfText = fun N s => bif (ltB 24 (List.length s : Int)) then gd (leB 24 (List.length s : Int)) (some (value_Value.mk 4 0 0 (List.take 24 s))) else some (value_Value.mk 4 0 0 s) := rfl
    have e2 : ltB 24 ((byS b).length : Int) = false := ltB_not.2 (by rw [byS_len]; omega)
    simp only [e1, e2, cond_false, Option.bind_some]
    rw [show ((a + j : Nat) : Int) + 1 - (a : Int) = ((j + 1 : Nat) : Int) by omega]
    refine W.call (w_put (j + 1) 3 [] _ y3 a ys (by omega) (by omega) hx') ?_
    rintro _ rfl
    rw [h3]
    exact W.ret.2 rfl
  simp only [s_lex_scanner_quoted_v558_1, W.cond, W.gd, ltB_iff, ltB_not, i64b_eq]
  refine ⟨fun hlt => ?_, fun hge => ?_⟩
  rotate_left
  · have hnil : y3.drop (a + j) = [] := List.drop_eq_nil_of_le (by omega)
    rw [hnil, quoR_nil] at hq
    simp only [fail_c 3 rfl, Option.bind_some, Sum.elim_inr, W.ret]
    rw [hq]; rfl
  obtain ⟨c, hc⟩ := drop_get (y := y3) (a := a + j) (k := 0) (by omega)
  have hd := drop_eq hc
  rw [List.drop_zero, List.drop_drop] at hd
  have hc := ix_drop hc
  rw [show ((a + j : Nat) : Int) + ((0 : Nat) : Int) = ((a + j : Nat) : Int) by omega] at hc
  rw [hd] at hq
  have ebig : ∀ e : Int, (e == 0) = false → ∀ p : Int, s_fault_New = fun N e p => bif e == 0 then some (.inl ()) else some (.inr (e, p)) := fun _ _ _ => rfl
  simp only [hc, Option.bind_some, W.cond, ltB_iff, ltB_not]
  refine ⟨fun h1 => ?_, fun h1 => ⟨fun h2 => ?_, fun h2 => ⟨fun h3 => ?_, fun h3 => ⟨fun h4 => ?_, fun h4 => ?_⟩⟩⟩⟩
  · simp only [s_fault_New, show ((10 : Int) == 0) = false from rfl, cond_false, Option.bind_some, Sum.elim_inr, W.ret]
    rw [quoR_cons, if_pos (.inl (by omega))] at hq
    rw [hq]; rfl
  · simp only [s_fault_New, show ((10 : Int) == 0) = false from rfl, cond_false, Option.bind_some, Sum.elim_inr, W.ret]
    rw [quoR_cons, if_pos (.inr (by omega))] at hq
    rw [hq]; rfl
  · -- an escape
    have hc92 : c = 92 := by have := u8eq (c := c) (n := 92) (by omega); rw [show ((92 : Nat) : Int) = 92 from rfl, h3] at this; simpa using this.symm
    rw [quoR_cons, if_neg (by omega), if_pos hc92] at hq
    rw [show ((a + j : Nat) : Int) + 1 = ((a + j + 1 : Nat) : Int) by omega]
    simp only [W.gd, i64b_eq]
    refine ⟨by omega, ?_⟩
    refine W.call (w_escaped y3 (a + j + 1) a ys (by omega) hy) ?_
    rintro ⟨v, is, r3⟩ ⟨hr1, hr2⟩
    dsimp only at hr1 hr2
    subst hr1
    simp only [W.cond, W.gd, i64b_eq, s_fault_New, show ((4 : Int) == 0) = false from rfl, cond_false, Option.bind_some, Sum.elim_inr, W.ret]
    have bad : is = false → quoR (y3.drop (a + 1)) 1 [] = .inr (4, j) → W (fun _ : _ => some (Sum.inr (Sum.inl (4, ((a + j : Nat) : Int), y3, (a : Int), ys)) : St3 ⊕ Ft ⊕ St3)) (ι := Nat) fun r => finA r = stepR y3 a ys (quoR (y3.drop (a + 1)) 1 []) := fun _ h => by rw [h]; exact W.ret.2 rfl
    rcases hdd : y3.drop (a + j + 1) with _ | ⟨p, _ | ⟨q, t⟩⟩
    · rw [hdd] at hr2 hq
      dsimp only at hr2 hq
      subst hr2
      refine ⟨fun _ => by rw [hq]; rfl, fun h => by cases h⟩
    · rw [hdd] at hr2 hq
      dsimp only at hr2 hq
      subst hr2
      refine ⟨fun _ => by rw [hq]; rfl, fun h => by cases h⟩
    · rw [hdd] at hr2 hq
      dsimp only at hr2 hq
      have hlen : (y3.drop (a + j + 1)).length = t.length + 2 := by rw [hdd]; rfl
      rw [List.length_drop] at hlen
      have ht : t = y3.drop (a + (j + 3)) := by
        have : (y3.drop (a + j + 1)).drop 2 = t := by rw [hdd]; rfl
        rw [← this, List.drop_drop]
        congr 1
      cases hp : hx p with
      | none =>
        rw [hp] at hr2 hq
        dsimp only at hr2 hq
        subst hr2
        refine ⟨fun _ => by rw [hq]; rfl, fun h => by cases h⟩
      | some h =>
        cases hq2 : hx q with
        | none =>
          rw [hp, hq2] at hr2 hq
          dsimp only at hr2 hq
          subst hr2
          refine ⟨fun _ => by rw [hq]; rfl, fun h => by cases h⟩
        | some l =>
          rw [hp, hq2] at hr2 hq
          dsimp only at hr2 hq
          obtain ⟨rfl, rfl⟩ := hr2
          refine ⟨fun h => (by cases h), fun _ => ⟨Nat.ble_eq_true_of_le (by omega), by omega, ?_⟩⟩
          refine hn _ _ _ _ _ ⟨j + 3, by omega, by omega, by omega, rfl, rfl, rfl, by simp; omega, ?_⟩ (by omega)
          rw [byS_snoc, Int.toNat_natCast, ← ht]
          exact hq
  · -- a byte as it is
    have h3 : ¬ c = 92 := by have := u8eq (c := c) (n := 92) (by omega); rw [show ((92 : Nat) : Int) = 92 from rfl, h3] at this; simpa using this.symm
    have h4 : ¬ c = 39 := by
      intro h; subst h; exact absurd h4 (by decide)
    rw [quoR_cons, if_neg (by omega), if_neg h3, if_neg h4] at hq
    simp only [W.gd, i64b_eq]
    refine ⟨Nat.ble_eq_true_of_le (by omega), by omega, ?_⟩
    rw [show ((a + j : Nat) : Int) + 1 = ((a + (j + 1) : Nat) : Int) by omega]
    refine hn _ _ _ _ _ ⟨j + 1, rfl, by omega, by omega, rfl, rfl, rfl, by simp; omega, ?_⟩ (by omega)
    rw [byS_snoc, ofN]
    exact hq
  · have h3 : ¬ c = 92 := by have := u8eq (c := c) (n := 92) (by omega); rw [show ((92 : Nat) : Int) = 92 from rfl, h3] at this; simpa using this.symm
    have h39 : c = 39 := by
      have h5 : ((c.toNat : Int) == 39) = true := by cases hh : ((c.toNat : Int) == 39) <;> simp_all
      have := u8eq (c := c) (n := 39) (by omega); rw [show ((39 : Nat) : Int) = 39 from rfl, h5] at this; simpa using this.symm
    subst h39
    rw [quoR_cons, if_neg (by decide), if_neg h3, if_pos rfl] at hq
    have hfin : (¬ 24 < b.length → quoR (y3.drop (a + 1)) 1 [] = .inl (3, [], ⟨4, 0, 0, byS b⟩, j + 1)) → (24 < b.length → quoR (y3.drop (a + 1)) 1 [] = .inr (5, 0)) → ∀ {ι : Type} [Lim ι] (N : ι → Nat) [Tends N],
        (24 < (b.length : Int) → W (fun i => (s_lex_scanner_fail_v359 (N i) 5 y3 a ys).bind fun x => Sum.elim (fun fail => some (Sum.inl (fail.1, fail.2.1, fail.2.2))) (fun fail2 => some (Sum.inr (Sum.inl (fail2.1, fail2.2.1, fail2.2.2.1, fail2.2.2.2.1, fail2.2.2.2.2)))) x) (α := St3 ⊕ Ft ⊕ St3) fun r => finA r = stepR y3 a ys (quoR (y3.drop (a + 1)) 1 [])) := fun _ h2 {ι} _ N _ h => by
      simp only [fail_c 5 rfl, Option.bind_some, Sum.elim_inr, W.ret]
      rw [h2 (by omega)]; rfl
    simp only [W.gd, W.cond, i64b_eq, ltB_iff, ltB_not]
    refine ⟨by omega, fun h5 => ⟨by omega, ?_⟩, fun h5 => ?_⟩
    · obtain ⟨x, hx⟩ := drop_get (y := y3) (a := a + j + 1) (k := 0) (by omega)
      have hdx := drop_eq hx
      rw [List.drop_zero, List.drop_drop] at hdx
      have hx := ix_drop hx
      rw [show ((a + j + 1 : Nat) : Int) + ((0 : Nat) : Int) = ((a + j : Nat) : Int) + 1 by omega] at hx
      rw [hdx] at hq
      dsimp only at hq
      simp only [hx, Option.bind_some, W.cond, W.gd, i64b_eq, ltB_iff, ltB_not]
      refine ⟨fun h6 => ?_, fun h6 => ?_⟩
      · have hx39 : x = 39 := by have := u8eq (c := x) (n := 39) (by omega); rw [show ((39 : Nat) : Int) = 39 from rfl, h6] at this; simpa using this.symm
        rw [if_pos hx39] at hq
        refine ⟨Nat.ble_eq_true_of_le (by omega), by omega, ?_⟩
        refine hn _ _ _ _ _ ⟨j + 2, by omega, by omega, by omega, rfl, rfl, rfl, by simp; omega, ?_⟩ (by omega)
        rw [byS_snoc]
        exact hq
      · have hx39 : ¬ x = 39 := by have := u8eq (c := x) (n := 39) (by omega); rw [show ((39 : Nat) : Int) = 39 from rfl, h6] at this; simpa using this.symm
        rw [if_neg hx39] at hq
        refine ⟨fun h7 => hfin (fun h => absurd (by omega) h) (fun h => by rw [hq, if_pos (by rw [byS_len]; exact h)]) _ h7, fun h7 => ⟨by omega, by omega, ?_⟩⟩
        exact done _ rfl (by omega) (by omega) (by rw [hq, if_neg (by rw [byS_len]; omega)]) _
    · have hnil : y3.drop (a + j + 1) = [] := List.drop_eq_nil_of_le (by omega)
      rw [hnil] at hq
      dsimp only at hq
      refine ⟨fun h7 => hfin (fun h => absurd (by omega) h) (fun h => by rw [hq, if_pos (by rw [byS_len]; exact h)]) _ h7, fun h7 => ⟨by omega, by omega, ?_⟩⟩
      exact done _ rfl (by omega) (by omega) (by rw [hq, if_neg (by rw [byS_len]; omega)]) _
theorem sub_take {y : List UInt8} {a m : Nat} : List.drop (Int.toNat (a : Int)) (List.take (Int.toNat ((a : Int) + (m : Int))) y) = (y.drop a).take m := by
  rw [show Int.toNat ((a : Int) + (m : Int)) = a + m by omega, Int.toNat_natCast, List.drop_take, Nat.add_sub_cancel_left]
def sigR (c : UInt8) (t : List UInt8) : List UInt8 := if isC c ∧ t.head? = some 61 then [c, 61] else [c]
theorem signR_eq (c : UInt8) (t : List UInt8) : signR c t = .inl (4, sigR c t, zv, (sigR c t).length) := by
  unfold signR sigR; split <;> rfl
theorem w_sign (y : List UInt8) (a : Nat) (xs : List lex_Token) (c : UInt8) (t : List UInt8) (hd : y.drop a = c :: t) (hy : y.length ≤ 700) (hx' : xs.length ≤ 700) :
    W (fun N => s_lex_scanner_sign_v558 N y a xs) (· = (y, ((a + (sigR c t).length : Nat) : Int), xs ++ [⟨4, (a : Int), sigR c t, zv⟩])) := by
  have hl : (y.drop a).length = t.length + 1 := by rw [hd]; rfl
  rw [List.length_drop] at hl
  have hc : ix y (a : Int) = some c := by
    have := ix_drop (y := y) (a := a) (k := 0) (e := c) (by rw [hd]; rfl)
    rwa [show (a : Int) + ((0 : Nat) : Int) = (a : Int) by omega] at this
  have t1 := sub_take (y := y) (a := a) (m := 1)
  have t2 := sub_take (y := y) (a := a) (m := 2)
  rw [hd] at t1 t2
  rw [show ((1 : Nat) : Int) = 1 from rfl] at t1
  rw [show ((2 : Nat) : Int) = 2 from rfl] at t2
  have put : ∀ (x : List UInt8) (n : Nat), x = sigR c t → n = (sigR c t).length → n ≤ 2 → ∀ {ι : Type} [Lim ι] (N : ι → Nat) [Tends N], W (fun i => (s_lex_scanner_put_v420 (N i) (n : Int) 4 x (value_Value.mk 0 0 0 []) y a xs).bind fun p => some ((p.1, p.2.1, p.2.2) : St3)) (· = (y, ((a + (sigR c t).length : Nat) : Int), xs ++ [⟨4, (a : Int), sigR c t, zv⟩])) := fun x n h1 h2 h3 {ι} _ N _ => by
    refine W.call (w_put n 4 x _ y a xs (by omega) (by omega) hx') ?_
    rintro _ rfl
    subst h1
    rw [h2]
    exact W.ret.2 rfl
  simp only [s_lex_scanner_sign_v558, hc, Option.bind_some, index_c, W.cond, W.gd, i64b_eq, leB_iff, ltB_iff, ltB_not]
  rw [show (leB 0 (Lib.indexByte [33, 60, 62] c)) = isC c from rfl] at *
  have one : (t.head? = some 61 → isC c = false) → sigR c t = [c] := fun h => by
    rw [sigR, if_neg]; rintro ⟨h1, h2⟩; rw [h h2] at h1; cases h1
  refine ⟨fun h => ⟨by omega, fun h2 => ⟨by omega, ?_⟩, fun h2 => ⟨by omega, by omega, by omega, by omega, ?_⟩⟩, fun h => ⟨by omega, by omega, by omega, by omega, ?_⟩⟩
  · cases t with
    | nil => simp at hl; omega
    | cons d t =>
      have hd1 := ix_drop (y := y) (a := a) (k := 1) (e := d) (by rw [hd]; rfl)
      rw [show (a : Int) + ((1 : Nat) : Int) = (a : Int) + 1 by omega] at hd1
      simp only [hd1, Option.bind_some, W.cond, W.gd, i64b_eq, leB_iff]
      refine ⟨fun h3 => ⟨by omega, by omega, by omega, by omega, ?_⟩, fun h3 => ⟨by omega, by omega, by omega, by omega, ?_⟩⟩
      · have h61 : d = 61 := by have := u8eq (c := d) (n := 61) (by omega); rw [show ((61 : Nat) : Int) = 61 from rfl, h3] at this; simpa using this.symm
        subst h61
        have hs : sigR c (61 :: t) = [c, 61] := by rw [sigR, if_pos ⟨leB_iff.2 h, rfl⟩]
        rw [t2]
        exact put _ 2 (by rw [hs]; rfl) (by rw [hs]; rfl) (by omega) _
      · have h61 : ¬ d = 61 := by have := u8eq (c := d) (n := 61) (by omega); rw [show ((61 : Nat) : Int) = 61 from rfl, h3] at this; simpa using this.symm
        have hs := one (fun h => by cases h; exact absurd rfl h61)
        rw [t1]
        exact put _ 1 (by rw [hs]; rfl) (by rw [hs]; rfl) (by omega) _
  · have hs := one (fun h => by cases t with | nil => cases h | cons d t => simp at hl; omega)
    rw [t1]
    exact put _ 1 (by rw [hs]; rfl) (by rw [hs]; rfl) (by omega) _
  · have h : isC c = false := by
      cases hh : isC c with
      | false => rfl
      | true => exact absurd (leB_iff.1 (show leB 0 (Lib.indexByte [33, 60, 62] c) = true from hh)) (by have := leB_not.1 h; omega)
    have hs := one (fun _ => h)
    rw [t1]
    exact put _ 1 (by rw [hs]; rfl) (by rw [hs]; rfl) (by omega) _
theorem w_token (y : List UInt8) (a : Nat) (xs : List lex_Token) (c : UInt8) (t : List UInt8) (hd : y.drop a = c :: t) (hy : y.length ≤ 700) (hx' : xs.length ≤ 200) :
    W (fun N => s_lex_scanner_token_v558 N y a xs) fun r => finA r = if known c && decide (xs.length = 200) then .inr (7, (a : Int)) else stepR y a xs (oneR (c :: t)) := by
  have hl : (y.drop a).length = t.length + 1 := by rw [hd]; rfl
  rw [List.length_drop] at hl
  have ha : a < y.length := by omega
  have hd1 : y.drop (a + 1) = t := by
    have : (y.drop a).drop 1 = t := by rw [hd]; rfl
    rw [← this, List.drop_drop]
  have hc : ix y (a : Int) = some c := by
    have := ix_drop (y := y) (a := a) (k := 0) (e := c) (by rw [hd]; rfl)
    rwa [show (a : Int) + ((0 : Nat) : Int) = (a : Int) by omega] at this
  have e200 : ((xs.length : Int) == 200) = decide (xs.length = 200) := by
    by_cases h : xs.length = 200
    · rw [decide_eq_true h, beq_iff_eq]; omega
    · rw [decide_eq_false h, beq_eq_false_iff_ne]; omega
  have full : ∀ {Q : St3 ⊕ Ft ⊕ St3 → Prop}, Q (.inr (.inl (7, (a : Int), y, (a : Int), xs))) → ∀ {ι : Type} [Lim ι] (N : ι → Nat) [Tends N], W (fun i => (s_lex_scanner_fail_v359 (N i) 7 y a xs).bind fun x => Sum.elim (fun fail => some (Sum.inl (fail.1, fail.2.1, fail.2.2))) (fun fail2 => some (Sum.inr (Sum.inl (fail2.1, fail2.2.1, fail2.2.2.1, fail2.2.2.2.1, fail2.2.2.2.2)))) x) Q := fun {Q} h {ι} _ N _ => by
    simp only [fail_c 7 rfl, Option.bind_some, Sum.elim_inr]
    exact W.ret.2 h
  simp only [s_lex_scanner_token_v558, hc, Option.bind_some, small_c, digit_c, index_c, e200]
  simp only [show ∀ c, (leB 0 (Lib.indexByte [40, 41, 91, 93, 123, 125, 59, 124, 33, 58, 44, 46, 43, 42, 63, 45, 61, 60, 62] c)) = isG c from fun _ => rfl]
  have kn : ∀ {b : Bool}, known c = b → known c = b := id
  by_cases hS : isS c = true
  · have hk : known c = true := by simp [known, hS]
    simp only [hS, hk, cond_true, Bool.true_and, oneR, if_true]
    refine W.cond.2 ⟨fun h => full (by simp only [h, if_true]; rfl) _, fun h => ?_⟩
    simp only [h, Bool.false_eq_true, if_false]
    refine W.call (w_word y a xs (by omega) hy (by omega)) ?_
    rw [hd]
    rintro (r | r | r) hr <;> simp only [Sum.elim_inl, Sum.elim_inr, W.ret] <;> exact hr
  have hS := eq_false_of_ne_true hS
  by_cases hD : isD c = true
  · have hk : known c = true := by simp [known, hD]
    simp only [hS, hD, hk, cond_true, cond_false, Bool.true_and, oneR, if_true, Bool.false_eq_true, if_false]
    refine W.cond.2 ⟨fun h => full (by simp only [h, if_true]; rfl) _, fun h => ?_⟩
    simp only [h, Bool.false_eq_true, if_false]
    refine W.call (w_number y a xs (by omega) hy (by omega)) ?_
    rw [hd]
    rintro (r | r | r) hr <;> simp only [Sum.elim_inl, Sum.elim_inr, W.ret] <;> exact hr
  have hD := eq_false_of_ne_true hD
  by_cases h35 : ((c.toNat : Int) == 35) = true
  · have hk : known c = true := by simp [known, h35]
    simp only [hS, hD, h35, hk, cond_true, cond_false, Bool.true_and, oneR, if_true, Bool.false_eq_true, if_false]
    refine W.cond.2 ⟨fun h => full (by simp only [h, if_true]; rfl) _, fun h => ?_⟩
    simp only [h, Bool.false_eq_true, if_false]
    refine W.call (w_double y a xs (by omega) hy (by omega)) ?_
    rw [hd1]
    rintro (r | r | r) hr <;> simp only [Sum.elim_inl, Sum.elim_inr, W.ret] <;> exact hr
  have h35 := eq_false_of_ne_true h35
  by_cases h39 : ((c.toNat : Int) == 39) = true
  · have hk : known c = true := by simp [known, h39]
    simp only [hS, hD, h35, h39, hk, cond_true, cond_false, Bool.true_and, oneR, if_true, Bool.false_eq_true, if_false]
    refine W.cond.2 ⟨fun h => full (by simp only [h, if_true]; rfl) _, fun h => ?_⟩
    simp only [h, Bool.false_eq_true, if_false]
    refine W.call (w_quoted y a xs (by omega) hy (by omega)) ?_
    rw [hd1]
    rintro (r | r | r) hr <;> simp only [Sum.elim_inl, Sum.elim_inr, W.ret] <;> exact hr
  have h39 := eq_false_of_ne_true h39
  by_cases hG : isG c = true
  · have hk : known c = true := by simp [known, hG]
    simp only [hS, hD, h35, h39, hG, hk, cond_true, cond_false, Bool.true_and, oneR, if_true, Bool.false_eq_true, if_false, Bool.not_true]
    refine W.cond.2 ⟨fun h => full (by simp only [h, if_true]; rfl) _, fun h => ?_⟩
    simp only [h, Bool.false_eq_true, if_false]
    refine W.call (w_sign y a xs c t hd hy (by omega)) ?_
    rintro _ rfl
    rw [signR_eq]
    exact W.ret.2 rfl
  have hG := eq_false_of_ne_true hG
  have hk : known c = false := by simp [known, hS, hD, h35, h39, hG]
  simp only [hS, hD, h35, h39, hG, hk, cond_true, cond_false, Bool.false_and, oneR, Bool.false_eq_true, if_false, Bool.not_false, fail_c 10 rfl, Option.bind_some, Sum.elim_inr, W.ret]
  rfl
theorem scanR_nil (p : Nat) (out : List lex_Token) : scanR [] p out = .inl out := by rw [scanR.eq_def]
theorem scanR_cons (c : UInt8) (t : List UInt8) (p : Nat) (out : List lex_Token) : scanR (c :: t) p out =
    if blank c then scanR t (p + 1) out
    else if known c && decide (out.length = 200) then .inr (7, (p : Int))
    else match oneR (c :: t) with
      | .inr (e, o) => .inr (e, ((p + o : Nat) : Int))
      | .inl (k, x, v, m) => scanR (t.drop (m - 1)) (p + m) (out ++ [⟨k, (p : Int), x, v⟩]) := by
  rw [scanR.eq_def] <;> rfl
def scanE : List lex_Token ⊕ (Int × Int) → List lex_Token ⊕ (List lex_Token × Int × Int)
  | .inl l => .inl l
  | .inr (e, a) => .inr ([], e, a)
/-- The length of a token lies within the text, and is not nothing. -/
theorem quoR_len : ∀ (n : Nat) (t : List UInt8), t.length ≤ n → ∀ {off : Nat} {b : List UInt8} {k : Int} {x : List UInt8} {v : value_Value} {m : Nat}, 1 ≤ off → quoR t off b = .inl (k, x, v, m) → off < m ∧ m ≤ off + t.length
  | n, [], _, off, b, k, x, v, m, _, h => by rw [quoR_nil] at h; cases h
  | 0, c :: t, hn, _, _, _, _, _, _, _, _ => by simp at hn
  | n + 1, c :: t, hn, off, b, k, x, v, m, ho, h => by
    simp only [List.length_cons, Nat.add_le_add_iff_right] at hn
    rw [quoR_cons] at h
    split at h
    · cases h
    · split at h
      · split at h
        · rename_i p q t'
          split at h
          · have := quoR_len n _ (by simp at hn; omega) (by omega) h
            simp only [List.length_cons]; omega
          · cases h
        · cases h
      · split at h
        · split at h
          · rename_i p t'
            split at h
            · have := quoR_len n _ (by simp at hn; omega) (by omega) h
              simp only [List.length_cons]; omega
            · split at h
              · cases h
              · cases h; simp only [List.length_cons]; omega
          · split at h
            · cases h
            · cases h; simp only [List.length_cons, List.length_nil]; omega
        · have := quoR_len n _ hn (by omega) h
          simp only [List.length_cons]; omega
theorem oneR_m {c : UInt8} {t : List UInt8} {k : Int} {x : List UInt8} {v : value_Value} {m : Nat} (h : oneR (c :: t) = .inl (k, x, v, m)) : 1 ≤ m ∧ m ≤ t.length + 1 := by
  simp only [oneR] at h
  split at h
  · rename_i hs
    have h1 : 1 ≤ ((c :: t).takeWhile isT).length := by rw [List.takeWhile_cons, if_pos (by simp [isT, hs])]; simp
    have h2 := tw_le isT (c :: t)
    simp only [List.length_cons] at h2
    unfold wordR at h
    repeat' split at h
    all_goals first | (cases h; omega) | cases h
  · split at h
    · rename_i hs
      have h1 : 1 ≤ ((c :: t).takeWhile isD).length := by rw [List.takeWhile_cons, if_pos hs]; simp
      have h2 := tw_le isD (c :: t)
      simp only [List.length_cons] at h2
      unfold numR at h
      repeat' split at h
      all_goals first | (cases h; omega) | cases h
    · split at h
      · unfold dblR at h
        split at h
        · cases h
        · split at h
          · cases h
          · split at h
            · cases h; omega
            · cases h
      · split at h
        · have := quoR_len _ t (Nat.le_refl _) (by omega) h
          omega
        · split at h
          · rename_i hg
            rw [signR_eq] at h
            cases h
            unfold sigR
            split
            · rename_i hh
              cases t with
              | nil => cases hh.2
              | cons => simp
            · simp
          · cases h
theorem w_Scan (s : List UInt8) (hs : s.length ≤ 700) : W (fun N => s_lex_Scan N s) (· = scanE (scan s)) := by
  simp only [s_lex_Scan, W.cond, ltB_iff, ltB_not, scan]
  refine ⟨fun h => ?_, fun h => ?_⟩
  · simp only [s_fault_New, show ((5 : Int) == 0) = false from rfl, cond_false, Option.bind_some, Sum.elim_inr, W.ret]
    rw [if_pos (by omega)]; rfl
  · rw [if_neg (by omega)]
    refine W.lp3 (fun y p ys => ∃ a : Nat, p = (a : Int) ∧ y = s ∧ a ≤ s.length ∧ ys.length ≤ 200 ∧ scanR s 0 [] = scanR (s.drop a) a ys) (fun _ p _ => s.length - p.toNat) ⟨0, rfl, rfl, Nat.zero_le _, by simp, rfl⟩ ?_
    rintro F y p ys ⟨a, rfl, rfl, ha, hl, hq⟩ hn
    simp only [s_lex_Scan_1, W.cond, ltB_iff, ltB_not]
    refine ⟨fun h1 => ?_, fun h1 => ?_⟩
    · obtain ⟨c, hc⟩ := drop_get (y := y) (a := a) (k := 0) (by omega)
      have hd := drop_eq hc
      rw [List.drop_zero, List.drop_drop] at hd
      have hc := ix_drop hc
      rw [show (a : Int) + ((0 : Nat) : Int) = (a : Int) by omega] at hc
      rw [hd, scanR_cons] at hq
      have skip : blank c = true → W (fun p : Nat × Nat => F p y ((a : Int) + 1) ys) fun r => r = scanE (scanR y 0 []) := fun hb => by
        rw [show (a : Int) + 1 = ((a + 1 : Nat) : Int) by omega]
        rw [if_pos hb] at hq
        exact hn _ _ _ ⟨a + 1, rfl, rfl, by omega, hl, hq⟩ (by omega)
      simp only [hc, Option.bind_some, W.cond, W.gd, i64b_eq]
      refine ⟨fun h => ⟨by omega, skip (by simp [blank, h])⟩, fun h2 => ⟨fun h => ⟨by omega, skip (by simp [blank, h])⟩, fun h3 => ⟨fun h => ⟨by omega, skip (by simp [blank, h])⟩, fun h4 => ?_⟩⟩⟩
      rw [if_neg (by simp only [blank, h2, h3, h4]; decide)] at hq
      refine W.call (w_token y a ys c _ hd (by omega) hl) ?_
      intro r hr
      by_cases hfull : (known c && decide (ys.length = 200)) = true
      · rw [if_pos hfull] at hr hq
        rcases r with r | ⟨e1, p1, r⟩ | r
        · cases hr
        · simp only [Sum.elim_inl, Sum.elim_inr, W.ret]
          simp only [finA] at hr
          cases hr
          rw [hq]; rfl
        · cases hr
      · rw [if_neg hfull] at hr hq
        cases ho : oneR (c :: y.drop (a + 1)) with
        | inr f =>
          obtain ⟨e, o⟩ := f
          rw [ho] at hr hq
          rcases r with r | ⟨e1, p1, r⟩ | r
          · cases hr
          · simp only [Sum.elim_inl, Sum.elim_inr, W.ret]
            simp only [finA, stepR] at hr
            cases hr
            rw [hq]; rfl
          · cases hr
        | inl f =>
          obtain ⟨k, x, v, m⟩ := f
          rw [ho] at hr hq
          dsimp only at hq
          have hm := oneR_m ho
          rw [List.length_drop] at hm
          have hlen : ys.length < 200 := by
            have hk : known c = true := by
              cases hk : known c with
              | true => rfl
              | false =>
                simp only [known, Bool.or_eq_false_iff] at hk
                simp only [oneR, hk.1.1.1.1, hk.1.1.1.2, hk.1.1.2, hk.1.2, hk.2, Bool.false_eq_true, if_false] at ho
                cases ho
            rw [hk] at hfull
            simp only [Bool.true_and, decide_eq_true_eq] at hfull
            omega
          rw [List.drop_drop, show a + 1 + (m - 1) = a + m by omega] at hq
          have next : W (fun p : Nat × Nat => F p y ((a + m : Nat) : Int) (ys ++ [⟨k, (a : Int), x, v⟩])) fun r => r = scanE (scanR y 0 []) := hn _ _ _ ⟨a + m, rfl, rfl, by omega, by simp; omega, hq⟩ (by omega)
          rcases r with r | r | r
          · simp only [finA, stepR] at hr
            cases hr
            simp only [Sum.elim_inl]; exact next
          · cases hr
          · simp only [finA, stepR] at hr
            cases hr
            simp only [Sum.elim_inr]; exact next
    · have hnil : y.drop a = [] := List.drop_eq_nil_of_le (by omega)
      rw [hnil, scanR_nil] at hq
      rw [hq]; exact W.ret.2 rfl
def z3 : lex_Token := ⟨0, 0, [], zv⟩
def r3 (a : Nat) : R1 → lex_Token × Int × Int
  | .inl (k, x, v, m) => (⟨k, (a : Int), x, v⟩, (m : Int), 0)
  | .inr (e, o) => (z3, 0, e)
def r4 (a : Nat) : R1 → lex_Token × Int × fault_Fault
  | .inl (k, x, v, m) => (⟨k, (a : Int), x, v⟩, (m : Int), ⟨0, 0⟩)
  | .inr (e, o) => (z3, 0, ⟨e, ((a + o : Nat) : Int)⟩)
def RD (s : List UInt8) : (Int × Int) ⊕ List pred_Node := match scan s with
  | .inr x => .inl x
  | .inl y => if y.length = 0 then .inr [] else match PAR y 0 s.length with
    | .inl x => .inl x
    | .inr (l, j) => if j < y.length then .inl (4, (tk y j).At) else .inr l
theorem w_pRead (s : List UInt8) (hs : s.length ≤ 700) (hT : ∀ y, scan s = .inl y → y.length ≤ 700) : W (fun N => s_predtext_Read N s) (· = match RD s with
    | .inl x => .inr ([], x.1, x.2)
    | .inr l => .inl l) := by
  simp only [s_predtext_Read]
  refine W.call (w_Scan s hs) ?_
  rintro _ rfl
  unfold RD
  cases h : scan s with
  | inr x => simp only [scanE, Sum.elim_inr, W.ret]
  | inl y =>
    simp only [scanE, Sum.elim_inl, W.cond, W.ret]
    refine ⟨fun h0 => ?_, fun h0 => ?_⟩
    · rw [if_pos (by simpa using h0)]
    · have h0 : ¬ y.length = 0 := by simpa using h0
      simp only [if_neg h0]
      refine W.call (w_Parse (b := 0) (hT y h) (Nat.zero_le _)) ?_
      rintro _ rfl
      cases g : PAR y 0 (s.length : Int) with
      | inl x => simp only [Sum.elim_inr, W.ret]
      | inr p =>
        obtain ⟨l, j⟩ := p
        simp only [Sum.elim_inl, lt_cast]
        by_cases hj : j < y.length
        · simp only [decide_eq_true hj, cond_true, (ix_at hj).1, Option.bind_some, s_fault_New, show ((4 : Int) == 0) = false from rfl, cond_false, Sum.elim_inr, W.ret, if_pos hj]
        · simp only [decide_eq_false hj, cond_false, W.ret, if_neg hj]
theorem PAR_nz {y : List lex_Token} {b : Nat} {e : Int} (hy : y.length ≤ 700) (hb : b ≤ y.length) {c a : Int} (h : PAR y b e = .inl (c, a)) : c ≠ 0 := by
  have ok := ((p_all (e := e) hy 51).1 0 b (by omega) (by omega) (by omega) (by omega)).1
  unfold PAR at h
  cases g : (SPP y 51).1 0 b with
  | inl x =>
    rw [g] at ok h
    have hc : x.1 ≠ 0 := ok.1
    simp only [Sum.inl.injEq, Prod.mk.injEq] at h
    rw [← h.1]; exact hc
  | inr p =>
    rw [g] at h
    simp only at h
    by_cases hz : chk p.1 = 0
    · rw [if_pos hz] at h; cases h
    · rw [if_neg hz] at h
      simp only [Sum.inl.injEq, Prod.mk.injEq] at h
      rw [← h.1]; exact hz
theorem w_tBack (l : List pred_Node) (hl : l.length ≤ 10000) : W (fun N => s_law11_Back N l) (· = l) := by
  simp only [s_law11_Back]
  refine wf2a (l := l) (fun pre ys => ys = pre) [] rfl rfl (by omega) rfl ?_ ?_
  · rintro F pre e rest ys hl' h1 h2 h3 rfl hn
    simp only [s_law11_Back_1, h1, h2, h3, Option.bind_some, cond_true, W.gd, true_and]
    refine ⟨Nat.ble_eq_true_of_le (by rw [hl'] at hl; simp at hl; omega), hn _ rfl⟩
  · rintro F ys h1 rfl
    simp only [s_law11_Back_1, h1, cond_false, W.ret]
def okB (v : value_Value) : Prop := 0 ≤ v.Bits ∧ v.Bits ≤ 18446744073709551615
theorem hexv_lt2 : ∀ (l : List UInt8) (V u : Nat), hexv V l = some u → u < (V + 1) * 16 ^ l.length
  | [], V, u, hq => by rw [hexv] at hq; cases hq; simp
  | c :: l, V, u, hq => by
    rw [hexv] at hq
    split at hq
    · cases hq
    · rename_i d hd
      have h1 := hexv_lt2 l _ u hq
      have h2 := hx_lt hd
      rw [List.length_cons, Nat.pow_succ]
      have h3 : (16 * V + d + 1) * 16 ^ l.length ≤ ((V + 1) * 16) * 16 ^ l.length := Nat.mul_le_mul_right _ (by omega)
      rw [Nat.mul_assoc] at h3
      rw [Nat.mul_comm (16 ^ l.length) 16]
      omega
theorem quoR_b : ∀ (n : Nat) (t : List UInt8), t.length ≤ n → ∀ {off : Nat} {b : List UInt8} {k : Int} {x : List UInt8} {v : value_Value} {m : Nat}, quoR t off b = .inl (k, x, v, m) → v.Bits = 0
  | n, [], _, off, b, k, x, v, m, h => by rw [quoR_nil] at h; cases h
  | 0, c :: t, hn, _, _, _, _, _, _, _ => by simp at hn
  | n + 1, c :: t, hn, off, b, k, x, v, m, h => by
    simp only [List.length_cons, Nat.add_le_add_iff_right] at hn
    rw [quoR_cons] at h
    split at h
    · cases h
    · split at h
      · split at h
        · split at h
          · exact quoR_b n _ (by simp at hn; omega) h
          · cases h
        · cases h
      · split at h
        · split at h
          · split at h
            · exact quoR_b n _ (by simp at hn; omega) h
            · split at h
              · cases h
              · cases h; rfl
          · split at h
            · cases h
            · cases h; rfl
        · exact quoR_b n _ hn h
theorem ok0 {v : value_Value} (h : v.Bits = 0) : okB v := by unfold okB; omega
theorem one_b {r : List UInt8} {k : Int} {x : List UInt8} {v : value_Value} {m : Nat} (h : oneR r = .inl (k, x, v, m)) : okB v := by
  cases r with
  | nil => cases h
  | cons c t =>
    simp only [oneR] at h
    split at h
    · unfold wordR at h
      repeat' split at h
      all_goals first | (cases h; exact ok0 rfl) | cases h
    · split at h
      · unfold numR at h
        repeat' split at h
        all_goals first | (cases h; exact ok0 rfl) | cases h
      · split at h
        · unfold dblR at h
          split at h
          · cases h
          · split at h
            · cases h
            · rename_i h16 u hu
              have hlt := hexv_lt2 _ _ _ hu
              rw [List.length_take, show min 16 t.length = 16 by omega] at hlt
              have hlt : u < 18446744073709551616 := by simpa using hlt
              split at h
              · cases h; exact ⟨by show (0 : Int) ≤ (u : Int); omega, by show (u : Int) ≤ _; omega⟩
              · cases h
        · split at h
          · exact ok0 (quoR_b _ t (Nat.le_refl _) h)
          · split at h
            · rw [signR_eq] at h; cases h; exact ok0 rfl
            · cases h
theorem scanR_all {P : lex_Token → Prop} (hP : ∀ {r k x v m} (p : Int), oneR r = .inl (k, x, v, m) → P ⟨k, p, x, v⟩) : ∀ (n : Nat) (r : List UInt8), r.length ≤ n → ∀ {p : Nat} {out l : List lex_Token}, (∀ t ∈ out, P t) → scanR r p out = .inl l → ∀ t ∈ l, P t
  | n, [], _, p, out, l, ho, h => by rw [scanR_nil] at h; cases h; exact ho
  | 0, c :: t, hn, _, _, _, _, _ => by simp at hn
  | n + 1, c :: t, hn, p, out, l, hl, h => by
    simp only [List.length_cons, Nat.add_le_add_iff_right] at hn
    rw [scanR_cons] at h
    split at h
    · exact scanR_all hP n t hn hl h
    · split at h
      · cases h
      · split at h
        · cases h
        · rename_i k x v m ho
          refine scanR_all hP n _ (by rw [List.length_drop]; omega) (fun t ht => ?_) h
          rcases List.mem_append.1 ht with ht | ht
          · exact hl t ht
          · rw [List.mem_singleton.1 ht]; exact hP _ ho
theorem scanR_n : ∀ (n : Nat) (r : List UInt8), r.length ≤ n → ∀ {p : Nat} {out l : List lex_Token}, out.length ≤ 200 → scanR r p out = .inl l → l.length ≤ 200
  | n, [], _, p, out, l, h, hq => by rw [scanR_nil] at hq; cases hq; exact h
  | 0, c :: t, hn, _, _, _, _, _ => by simp at hn
  | n + 1, c :: t, hn, p, out, l, h, hq => by
    simp only [List.length_cons, Nat.add_le_add_iff_right] at hn
    rw [scanR_cons] at hq
    split at hq
    · exact scanR_n n t hn h hq
    · split at hq
      · cases hq
      · rename_i hf
        split at hq
        · cases hq
        · rename_i k x v m ho
          have hk : known c = true := by
            cases hk : known c with
            | true => rfl
            | false =>
              simp only [known, Bool.or_eq_false_iff] at hk
              simp only [oneR, hk.1.1.1.1, hk.1.1.1.2, hk.1.1.2, hk.1.2, hk.2, Bool.false_eq_true, if_false] at ho
              cases ho
          rw [hk] at hf
          simp only [Bool.true_and, decide_eq_true_eq] at hf
          exact scanR_n n _ (by rw [List.length_drop]; omega) (by simp; omega) hq
theorem scan_inl {s : List UInt8} {y : List lex_Token} (h : scan s = .inl y) : y.length ≤ 200 ∧ okT y := by
  unfold scan at h
  split at h
  · cases h
  · exact ⟨scanR_n _ s (Nat.le_refl _) (by simp) h, scanR_all (P := fun t => okB t.Val) (fun _ h => one_b h) _ s (Nat.le_refl _) (by simp) h⟩
theorem p_Read (s : List UInt8) (hs : s.length ≤ 700) : W (fun N => s_predtext_Read N s) (· = match RD s with
    | .inl x => .inr ([], x.1, x.2)
    | .inr l => .inl l) := w_pRead s hs fun y h => by have := (scan_inl h).1; omega
theorem w_aw12 : W (fun N => s_law12_awake N) fun r => r = true := ⟨true, ⟨64, fun N hN => by
  simp only [s_law12_awake, Nat.ble_eq_true_of_le hN, cond_true]⟩, rfl⟩
theorem aw12 {ι : Type} [Lim ι] (N : ι → Nat) [Tends N] : W (fun i => (s_law12_awake (N i)).bind fun a => some a) (· = true) := wid.2 (w_aw12.of N)
theorem PAR_len {y : List lex_Token} {b : Nat} {e : Int} (hy : y.length ≤ 700) (hb : b ≤ y.length) {l : List pred_Node} {j : Nat} (h : PAR y b e = .inr (l, j)) : l.length ≤ j - b ∧ b < j ∧ j ≤ y.length ∧ chk l = 0 := by
  have ok := ((p_all (e := e) hy 51).1 0 b (by omega) (by omega) (by omega) (by omega)).1
  unfold PAR at h
  cases g : (SPP y 51).1 0 b with
  | inl x => rw [g] at h; cases h
  | inr p =>
    rw [g] at ok h
    simp only at h
    by_cases hz : chk p.1 = 0
    · rw [if_pos hz] at h
      cases h
      exact ⟨ok.2.2, ok.1, ok.2.1, hz⟩
    · rw [if_neg hz] at h; cases h
theorem RD_len {s : List UInt8} {l : List pred_Node} (h : RD s = .inr l) : l.length ≤ 200 := by
  unfold RD at h
  cases g : scan s with
  | inr z => rw [g] at h; cases h
  | inl y =>
    have hy := (scan_inl g).1
    rw [g] at h; simp only at h
    split at h
    · cases h; simp
    · cases k : PAR y 0 s.length with
      | inl z => rw [k] at h; cases h
      | inr p =>
        obtain ⟨l', j⟩ := p
        have := PAR_len (by omega) (Nat.zero_le _) k
        rw [k] at h; simp only at h
        split at h
        · cases h
        · cases h; omega
section
open Go Classical
/-- A loop that holds two lists of one length against each other. -/
theorem w_eqs {ι : Type} [Lim ι] {β : Type} {a b : List β} (hab : a.length = b.length) (hl : a.length ≤ 1000000000) {f : ι → (Int → Option Bool) → Int → Option Bool} {N : ι → Nat} [Tends N]
    (step : ∀ (F : ι × Nat → Int → Option Bool) (i : Int) (e g : β), ix a i = some e → ix b i = some g → ltB i (a.length : Int) = true → i64b (i + 1) = true → (e ≠ g → W (fun p : ι × Nat => f p.1 (F p) i) (· = false)) ∧ (e = g → ∀ r, W (fun p => F p (i + 1)) (· = r) → W (fun p : ι × Nat => f p.1 (F p) i) (· = r)))
    (done : ∀ (F : ι × Nat → Int → Option Bool), ltB (a.length : Int) (a.length : Int) = false → W (fun p : ι × Nat => f p.1 (F p) (a.length : Int)) (· = true)) :
    W (fun i => lp1 (f i) (N i) 0) (· = decide (a = b)) := by
  refine wr1 (l := a) (fun pre rest => decide (rest = b.drop pre.length)) [] a rfl rfl (by omega) ?_ ?_
  · intro F pre e rest hl' h1 h2 h3 hn
    have hlen := congrArg List.length hl'
    simp only [List.length_append, List.length_cons] at hlen
    have hlt : pre.length < b.length := by omega
    have hd : b.drop pre.length = b[pre.length] :: b.drop (pre.length + 1) := List.drop_eq_getElem_cons hlt
    have hg : ix b (pre.length : Int) = some b[pre.length] := by rw [ix_nat']; exact List.getElem?_eq_getElem hlt
    rw [List.length_append, List.length_singleton] at hn
    obtain ⟨k1, k2⟩ := step F _ e _ h2 hg h1 h3
    by_cases he : e = b[pre.length]
    · have hn' := k2 he _ hn
      rw [hd, ← he]
      refine W.mp hn' fun r hr => ?_
      rw [hr]
      by_cases h : rest = b.drop (pre.length + 1)
      · rw [decide_eq_true h, decide_eq_true (by rw [h])]
      · rw [decide_eq_false h, decide_eq_false fun h2 => h (List.cons.inj h2).2]
    · refine W.mp (k1 he) fun r hr => ?_
      rw [hr, hd, decide_eq_false fun h => he (List.cons.inj h).1]
  · intro F h1
    refine W.mp (done F h1) fun r hr => ?_
    rw [hr, List.drop_eq_nil_of_le (by omega), decide_eq_true rfl]
theorem len_ne {β : Type} {a b : List β} : ((a.length : Int) != (b.length : Int)) = !decide (a.length = b.length) := by
  by_cases h : a.length = b.length
  · simp [h]
  · simp [h]; omega
theorem eqN_iff {e g : pred_Node} : ((e.Kind == g.Kind) && ((e.Op == g.Op) && ((e.Var == g.Var) && ((e.Name == g.Name) && ((e.Val.Kind == g.Val.Kind) && ((e.Val.N == g.Val.N) && ((e.Val.Bits == g.Val.Bits) && (e.Val.Text == g.Val.Text)))))))) = decide (e = g) := by
  obtain ⟨k, o, v, n, w⟩ := e
  obtain ⟨k', o', v', n', w'⟩ := g
  cases w; cases w'
  rw [Bool.eq_iff_iff]
  simp [Bool.and_eq_true]
theorem w_tSame (a b : List pred_Node) (hl : a.length ≤ 1000000000) : W (fun N => s_ref11_Same N a b) (· = decide (a = b)) := by
  simp only [s_ref11_Same, len_ne, W.cond, W.ret]
  refine ⟨fun h => ?_, fun h => ?_⟩
  · have h : ¬ a.length = b.length := by simpa using h
    rw [decide_eq_false (fun he => h (by rw [he]))]
  · refine w_eqs (by simpa using h) hl (fun F i e g h1 h2 h3 h4 => ?_) (fun F h => ?_)
    · simp only [s_ref11_Same_1, h1, h2, h3, h4, Option.bind_some, cond_true, gd_true, eqN_iff]
      refine ⟨fun he => ?_, fun he r hr => ?_⟩
      · simp only [decide_eq_false he, Bool.not_false, cond_true]; exact W.ret.2 rfl
      · simp only [decide_eq_true he, Bool.not_true, cond_false]; exact hr
    · simp only [s_ref11_Same_1, h, cond_false]; exact W.ret.2 rfl
end
theorem tw_app {α : Type} {p : α → Bool} {d : α} {b : List α} (hd : p d = false) : ∀ l : List α, (l ++ d :: b).takeWhile p = l.takeWhile p
  | [] => by simp [List.takeWhile_cons, hd]
  | x :: l => by
    simp only [List.cons_append, List.takeWhile_cons]
    rw [tw_app hd l]
theorem hexv_none' {l : List UInt8} {k : Nat} {e : UInt8} (h : l[k]? = some e) (he : hx e = none) : ∀ U, hexv U l = none := by
  induction l generalizing k with
  | nil => simp at h
  | cons c t ih =>
    intro U
    rw [hexv]
    cases hc : hx c with
    | none => rfl
    | some d =>
      cases k with
      | zero => simp only [List.getElem?_cons_zero, Option.some.injEq] at h; subst h; rw [he] at hc; cases hc
      | succ k => exact ih (by simpa using h) _
/-- A byte that no token takes. -/
structure Dl (d : UInt8) : Prop where
  T : isT d = false
  D : isD d = false
  H : hx d = none
  e61 : d ≠ 61
  e39 : d ≠ 39
theorem dl32 : Dl 32 := ⟨by decide, by decide, by decide, by decide, by decide⟩
theorem dbl_app {d : UInt8} (hd : Dl d) (t b : List UInt8) : dblR (t ++ d :: b) = dblR t := by
  by_cases h : t.length < 16
  · have h1 : dblR t = .inr (4, 0) := by rw [dblR, if_pos h]
    rw [h1, dblR]
    split
    · rfl
    · have : hexv 0 ((t ++ d :: b).take 16) = none := hexv_none' (k := t.length) (e := d) (by rw [List.getElem?_take, if_pos h]; simp) hd.H 0
      rw [this]
  · have e : (t ++ d :: b).take 16 = t.take 16 := by rw [List.take_append_of_le_length (by omega)]
    rw [dblR, dblR, if_neg h, if_neg (by simp; omega), e]
theorem sign_app {d : UInt8} (hd : Dl d) (c : UInt8) (t b : List UInt8) : signR c (t ++ d :: b) = signR c t := by
  cases t with
  | nil =>
    have : ¬ d = 61 := hd.e61
    simp [signR, this]
  | cons x t => rfl
theorem quo_app {d : UInt8} (hd : Dl d) (b : List UInt8) : ∀ (n : Nat) (t : List UInt8), t.length ≤ n → ∀ (off : Nat) (acc : List UInt8),
    (∀ x, quoR t off acc = .inl x → quoR (t ++ d :: b) off acc = .inl x) ∧
    (∀ e o, quoR t off acc = .inr (e, o) → e ≠ 3 → quoR (t ++ d :: b) off acc = .inr (e, o)) ∧
    (∀ o, quoR t off acc = .inr (3, o) → d.toNat < 32 → quoR (t ++ d :: b) off acc = .inr (10, off + t.length))
  | n, [], _, off, acc => by
    refine ⟨fun x h => ?_, fun e o h he => ?_, fun o h h32 => ?_⟩
    · rw [quoR_nil] at h; cases h
    · rw [quoR_nil] at h; cases h; exact absurd rfl he
    · rw [List.nil_append, quoR_cons, if_pos (.inl h32)]; rfl
  | 0, c :: t, hn, _, _ => by simp at hn
  | n + 1, c :: t, hn, off, acc => by
    simp only [List.length_cons, Nat.add_le_add_iff_right] at hn
    rw [List.cons_append, quoR_cons, quoR_cons]
    by_cases h1 : c.toNat < 32 ∨ 126 < c.toNat
    · rw [if_pos h1, if_pos h1]
      exact ⟨fun x h => (by cases h), fun e o h _ => h, fun o h => by cases h⟩
    rw [if_neg h1, if_neg h1]
    by_cases h2 : c = 92
    · rw [if_pos h2, if_pos h2]
      match t, hn with
      | [], _ =>
        cases b with
        | nil => exact ⟨fun x h => (by cases h), fun e o h _ => h, fun o h => by cases h⟩
        | cons y b =>
          simp only [List.nil_append, hd.H]
          exact ⟨fun x h => (by cases h), fun e o h _ => h, fun o h => by cases h⟩
      | [x], _ =>
        simp only [List.cons_append, List.nil_append, hd.H]
        cases hx x <;> exact ⟨fun x h => (by cases h), fun e o h _ => h, fun o h => by cases h⟩
      | x :: y :: t, hn =>
        simp only [List.cons_append]
        cases hx x with
        | none => exact ⟨fun x h => (by cases h), fun e o h _ => h, fun o h => by cases h⟩
        | some h =>
          cases hx y with
          | none => exact ⟨fun x h => (by cases h), fun e o h _ => h, fun o h => by cases h⟩
          | some l =>
            obtain ⟨q1, q2, q3⟩ := quo_app hd b n t (by simp at hn; omega) (off + 3) (acc ++ [UInt8.ofNat (16 * h + l)])
            dsimp only
            refine ⟨q1, q2, fun o h h32 => ?_⟩
            rw [q3 o h h32]
            simp only [List.length_cons]; congr 2; omega
    rw [if_neg h2, if_neg h2]
    by_cases h3 : c = 39
    · rw [if_pos h3, if_pos h3]
      cases t with
      | nil =>
        simp only [List.nil_append]
        rw [if_neg hd.e39]
        split
        · exact ⟨fun x h => (by cases h), fun e o h _ => h, fun o h => by cases h⟩
        · exact ⟨fun x h => h, fun e o h _ => (by cases h), fun o h => by cases h⟩
      | cons x t =>
        simp only [List.cons_append]
        by_cases h4 : x = 39
        · rw [if_pos h4, if_pos h4]
          obtain ⟨q1, q2, q3⟩ := quo_app hd b n t (by simp at hn; omega) (off + 2) (acc ++ [39])
          refine ⟨q1, q2, fun o h h32 => ?_⟩
          rw [q3 o h h32]
          simp only [List.length_cons]; congr 2; omega
        · rw [if_neg h4, if_neg h4]
          split
          · exact ⟨fun x h => (by cases h), fun e o h _ => h, fun o h => by cases h⟩
          · exact ⟨fun x h => h, fun e o h _ => (by cases h), fun o h => by cases h⟩
    rw [if_neg h3, if_neg h3]
    obtain ⟨q1, q2, q3⟩ := quo_app hd b n t hn (off + 1) (acc ++ [c])
    refine ⟨q1, q2, fun o h h32 => ?_⟩
    rw [q3 o h h32]
    simp only [List.length_cons]; congr 2; omega
theorem numR_3 {w : List UInt8} {e : Int} {o : Nat} (h : numR w = .inr (e, o)) : e ≠ 3 := by
  unfold numR at h
  repeat' split at h
  all_goals first | (cases h; decide) | cases h
theorem wordR_3 {w : List UInt8} {e : Int} {o : Nat} (h : wordR w = .inr (e, o)) : e ≠ 3 := by
  unfold wordR at h
  repeat' split at h
  all_goals first | (cases h; decide) | cases h
theorem dblR_3 {w : List UInt8} {e : Int} {o : Nat} (h : dblR w = .inr (e, o)) : e ≠ 3 := by
  unfold dblR at h
  repeat' split at h
  all_goals first | (cases h; decide) | cases h
theorem one_app {d : UInt8} (hd : Dl d) (b : List UInt8) (c : UInt8) (t : List UInt8) :
    (∀ x, oneR (c :: t) = .inl x → oneR (c :: t ++ d :: b) = .inl x) ∧
    (∀ e o, oneR (c :: t) = .inr (e, o) → e ≠ 3 → oneR (c :: t ++ d :: b) = .inr (e, o)) ∧
    (∀ o, oneR (c :: t) = .inr (3, o) → d.toNat < 32 → oneR (c :: t ++ d :: b) = .inr (10, t.length + 1)) := by
  have e1 : (c :: (t ++ d :: b)).takeWhile isT = (c :: t).takeWhile isT := tw_app hd.T (c :: t)
  have e2 : (c :: (t ++ d :: b)).takeWhile isD = (c :: t).takeWhile isD := tw_app hd.D (c :: t)
  simp only [List.cons_append, oneR, e1, e2, dbl_app hd, sign_app hd]
  by_cases hS : isS c = true
  · simp only [hS, if_true]
    exact ⟨fun x h => h, fun e o h _ => h, fun o h => absurd rfl (wordR_3 h)⟩
  simp only [hS, Bool.false_eq_true, if_false]
  by_cases hD : isD c = true
  · simp only [hD, if_true]
    exact ⟨fun x h => h, fun e o h _ => h, fun o h => absurd rfl (numR_3 h)⟩
  simp only [hD, Bool.false_eq_true, if_false]
  by_cases h35 : ((c.toNat : Int) == 35) = true
  · simp only [h35, if_true]
    exact ⟨fun x h => h, fun e o h _ => h, fun o h => absurd rfl (dblR_3 h)⟩
  simp only [h35, Bool.false_eq_true, if_false]
  by_cases h39 : ((c.toNat : Int) == 39) = true
  · simp only [h39, if_true]
    obtain ⟨q1, q2, q3⟩ := quo_app hd b _ t (Nat.le_refl _) 1 []
    exact ⟨q1, q2, fun o h h32 => by rw [q3 o h h32, Nat.add_comm]⟩
  simp only [h39, Bool.false_eq_true, if_false]
  by_cases hG : isG c = true
  · simp only [hG, if_true, signR_eq]
    exact ⟨fun x h => h, fun e o h _ => h, fun o h => by cases h⟩
  simp only [hG, Bool.false_eq_true, if_false]
  exact ⟨fun x h => (by cases h), fun e o h _ => h, fun o h => by cases h⟩
theorem one_known {c : UInt8} {t : List UInt8} {k : Int} {x : List UInt8} {v : value_Value} {m : Nat} (ho : oneR (c :: t) = .inl (k, x, v, m)) : known c = true := by
  cases hk : known c with
  | true => rfl
  | false =>
    simp only [known, Bool.or_eq_false_iff] at hk
    simp only [oneR, hk.1.1.1.1, hk.1.1.1.2, hk.1.1.2, hk.1.2, hk.2, Bool.false_eq_true, if_false] at ho
    cases ho
theorem blank_known : ∀ c : UInt8, blank c = true → known c = false := byte_all (by decide +kernel)
theorem quoR_o : ∀ (n : Nat) (t : List UInt8), t.length ≤ n → ∀ {off : Nat} {b : List UInt8} {e : Int} {o : Nat}, quoR t off b = .inr (e, o) → o ≤ off + t.length
  | n, [], _, off, b, e, o, h => by rw [quoR_nil] at h; cases h; omega
  | 0, c :: t, hn, _, _, _, _, _ => by simp at hn
  | n + 1, c :: t, hn, off, b, e, o, h => by
    simp only [List.length_cons, Nat.add_le_add_iff_right] at hn
    rw [quoR_cons] at h
    split at h
    · cases h; omega
    · split at h
      · split at h
        · split at h
          · have := quoR_o n _ (by simp at hn; omega) h
            simp only [List.length_cons]; omega
          · cases h; omega
        · cases h; omega
      · split at h
        · split at h
          · split at h
            · have := quoR_o n _ (by simp at hn; omega) h
              simp only [List.length_cons]; omega
            · split at h
              · cases h; omega
              · cases h
          · split at h
            · cases h; omega
            · cases h
        · have := quoR_o n _ hn h
          simp only [List.length_cons]; omega
theorem oneR_o {c : UInt8} {t : List UInt8} {e : Int} {o : Nat} (h : oneR (c :: t) = .inr (e, o)) : o ≤ t.length + 1 ∧ (e = 3 ∨ e ≠ 3) := by
  refine ⟨?_, Classical.em _⟩
  simp only [oneR] at h
  split at h
  · unfold wordR at h
    repeat' split at h
    all_goals first | (cases h; omega) | cases h
  · split at h
    · unfold numR at h
      repeat' split at h
      all_goals first | (cases h; omega) | cases h
    · split at h
      · unfold dblR at h
        repeat' split at h
        all_goals first | (cases h; omega) | cases h
      · split at h
        · have := quoR_o _ t (Nat.le_refl _) h
          omega
        · split at h
          · rw [signR_eq] at h; cases h
          · cases h; omega
theorem scanR_at : ∀ (n : Nat) (r : List UInt8), r.length ≤ n → ∀ {p : Nat} {out : List lex_Token} {e q : Int}, scanR r p out = .inr (e, q) → (p : Int) ≤ q ∧ q ≤ ((p + r.length : Nat) : Int)
  | n, [], _, p, out, e, q, h => by rw [scanR_nil] at h; cases h
  | 0, c :: t, hn, _, _, _, _, _ => by simp at hn
  | n + 1, c :: t, hn, p, out, e, q, h => by
    simp only [List.length_cons, Nat.add_le_add_iff_right] at hn ⊢
    rw [scanR_cons] at h
    split at h
    · have := scanR_at n t hn h
      omega
    · split at h
      · cases h; omega
      · split at h
        · rename_i ho
          have := oneR_o ho
          cases h; omega
        · rename_i k x v m ho
          have hm := oneR_m ho
          have := scanR_at n _ (by rw [List.length_drop]; omega) h
          rw [List.length_drop] at this
          omega
/-- Places rise, from one on and ahead of another one. -/
def Asc (hi : Nat) : Nat → List lex_Token → Prop
  | _, [] => True
  | lo, t :: l => ∃ a : Nat, t.At = (a : Int) ∧ lo ≤ a ∧ a < hi ∧ Asc hi (a + 1) l
theorem Asc.le {hi : Nat} : ∀ {l : List lex_Token} {lo lo' : Nat}, lo' ≤ lo → Asc hi lo l → Asc hi lo' l
  | [], _, _, _, _ => trivial
  | t :: l, lo, lo', h, ⟨a, h1, h2, h3, h4⟩ => ⟨a, h1, by omega, h3, h4⟩
theorem Asc.mem {hi : Nat} : ∀ {l : List lex_Token} {lo : Nat}, Asc hi lo l → ∀ t ∈ l, 0 ≤ t.At ∧ t.At < (hi : Int)
  | t :: l, lo, ⟨a, h1, h2, h3, h4⟩, x, hx => by
    rcases List.mem_cons.1 hx with rfl | hx
    · omega
    · exact Asc.mem h4 x hx
theorem scanR_asc : ∀ (n : Nat) (r : List UInt8), r.length ≤ n → ∀ {p : Nat} {out l : List lex_Token}, out.length ≤ 200 → scanR r p out = .inl l → ∃ l2, l = out ++ l2 ∧ Asc (p + r.length) p l2 ∧ l.length ≤ 200
  | n, [], _, p, out, l, ho, h => by rw [scanR_nil] at h; cases h; exact ⟨[], by simp, trivial, ho⟩
  | 0, c :: t, hn, _, _, _, _, _ => by simp at hn
  | n + 1, c :: t, hn, p, out, l, hl, h => by
    simp only [List.length_cons, Nat.add_le_add_iff_right] at hn ⊢
    rw [scanR_cons] at h
    split at h
    · obtain ⟨l2, h1, h2, h3⟩ := scanR_asc n t hn hl h
      exact ⟨l2, h1, by rw [show p + (t.length + 1) = p + 1 + t.length by omega]; exact h2.le (by omega), h3⟩
    · split at h
      · cases h
      · rename_i hf
        split at h
        · cases h
        · rename_i k x v m ho
          have hm := oneR_m ho
          rw [one_known ho] at hf
          simp only [Bool.true_and, decide_eq_true_eq] at hf
          obtain ⟨l2, h1, h2, h3⟩ := scanR_asc n _ (by rw [List.length_drop]; omega) (by simp; omega) h
          rw [List.length_drop] at h2
          refine ⟨⟨k, (p : Int), x, v⟩ :: l2, by rw [h1]; simp, ⟨p, rfl, Nat.le_refl _, by omega, ?_⟩, h3⟩
          rw [show p + (t.length + 1) = p + m + (t.length - (m - 1)) by omega]
          exact h2.le (by omega)
theorem scan_app (d : UInt8) (hd : Dl d) (hb : blank d = true) (h32 : d.toNat < 32) (b : List UInt8) : ∀ (n : Nat) (r : List UInt8), r.length ≤ n → ∀ (p : Nat) (out : List lex_Token),
    (∀ l, scanR r p out = .inl l → scanR (r ++ d :: b) p out = scanR b (p + r.length + 1) l) ∧
    (∀ e q, scanR r p out = .inr (e, q) → e ≠ 3 → scanR (r ++ d :: b) p out = .inr (e, q)) ∧
    (∀ q, scanR r p out = .inr (3, q) → scanR (r ++ d :: b) p out = .inr (10, ((p + r.length : Nat) : Int)))
  | n, [], _, p, out => by
    refine ⟨fun l h => ?_, fun e q h _ => ?_, fun q h => ?_⟩
    · rw [scanR_nil] at h; cases h
      rw [List.nil_append, scanR_cons, if_pos hb]; rfl
    · rw [scanR_nil] at h; cases h
    · rw [scanR_nil] at h; cases h
  | 0, c :: t, hn, _, _ => by simp at hn
  | n + 1, c :: t, hn, p, out => by
    simp only [List.length_cons, Nat.add_le_add_iff_right] at hn
    rw [List.cons_append, scanR_cons, scanR_cons]
    by_cases h1 : blank c = true
    · simp only [h1, if_true]
      obtain ⟨q1, q2, q3⟩ := scan_app d hd hb h32 b n t hn (p + 1) out
      refine ⟨fun l h => ?_, q2, fun q h => ?_⟩
      · rw [q1 l h]; congr 1; simp only [List.length_cons]; omega
      · rw [q3 q h]; simp only [List.length_cons]; congr 2; omega
    simp only [h1, Bool.false_eq_true, if_false]
    by_cases h2 : (known c && decide (out.length = 200)) = true
    · simp only [h2, if_true]
      exact ⟨fun l h => (by cases h), fun e q h _ => h, fun q h => by cases h⟩
    simp only [h2, Bool.false_eq_true, if_false]
    obtain ⟨o1, o2, o3⟩ := one_app hd b c t
    simp only [List.cons_append] at o1 o2 o3
    cases ho : oneR (c :: t) with
    | inr f =>
      obtain ⟨e, o⟩ := f
      by_cases h3 : e = 3
      · subst h3
        rw [o3 o ho h32]
        refine ⟨fun l h => (by cases h), fun e q h he => ?_, fun q h => ?_⟩
        · cases h; exact absurd rfl he
        · simp only [List.length_cons]
      · rw [o2 e o ho h3]
        refine ⟨fun l h => (by cases h), fun e q h _ => h, fun q h => ?_⟩
        cases h; exact absurd rfl h3
    | inl f =>
      obtain ⟨k, x, v, m⟩ := f
      have hm := oneR_m ho
      rw [o1 _ ho]
      have e1 : (t ++ d :: b).drop (m - 1) = t.drop (m - 1) ++ d :: b := List.drop_append_of_le_length (by omega)
      dsimp only
      rw [e1]
      obtain ⟨q1, q2, q3⟩ := scan_app d hd hb h32 b n (t.drop (m - 1)) (by rw [List.length_drop]; omega) (p + m) (out ++ [⟨k, (p : Int), x, v⟩])
      rw [List.length_drop] at q1 q3
      refine ⟨fun l h => ?_, q2, fun q h => ?_⟩
      · rw [q1 l h]; congr 1; simp only [List.length_cons]; omega
      · rw [q3 q h]; simp only [List.length_cons]; congr 2; omega
def sh (q : Nat) (t : lex_Token) : lex_Token := ⟨t.Kind, t.At + (q : Int), t.Text, t.Val⟩
def shE (q : Nat) (x : List lex_Token) : List lex_Token ⊕ (Int × Int) → List lex_Token ⊕ (Int × Int)
  | .inl l => .inl (x ++ l.map (sh q))
  | .inr (e, a) => .inr (e, a + (q : Int))
theorem scan_shift (x : List lex_Token) (q : Nat) : ∀ (n : Nat) (r : List UInt8), r.length ≤ n → ∀ (p : Nat) (out : List lex_Token), x.length + out.length ≤ 200 →
    (∃ a, scanR r (p + q) (x ++ out.map (sh q)) = .inr (7, a)) ∨ scanR r (p + q) (x ++ out.map (sh q)) = shE q x (scanR r p out)
  | n, [], _, p, out, _ => by rw [scanR_nil, scanR_nil]; exact .inr rfl
  | 0, c :: t, hn, _, _, _ => by simp at hn
  | n + 1, c :: t, hn, p, out, hl => by
    simp only [List.length_cons, Nat.add_le_add_iff_right] at hn
    rw [scanR_cons, scanR_cons]
    by_cases h1 : blank c = true
    · simp only [h1, if_true]
      have := scan_shift x q n t hn (p + 1) out hl
      rwa [show p + 1 + q = p + q + 1 by omega] at this
    simp only [h1, Bool.false_eq_true, if_false]
    by_cases h2 : (known c && decide ((x ++ out.map (sh q)).length = 200)) = true
    · simp only [h2, if_true]
      exact .inl ⟨_, rfl⟩
    simp only [h2, Bool.false_eq_true, if_false]
    have h3 : ¬ (known c && decide (out.length = 200)) = true := by
      intro h
      simp only [Bool.and_eq_true, decide_eq_true_eq, List.length_append, List.length_map] at h h2
      exact h2 ⟨h.1, by omega⟩
    simp only [h3, Bool.false_eq_true, if_false]
    cases ho : oneR (c :: t) with
    | inr f =>
      obtain ⟨e, o⟩ := f
      right
      simp only [shE]
      congr 2
      omega
    | inl f =>
      obtain ⟨k, y, v, m⟩ := f
      dsimp only
      rw [one_known ho] at h2
      simp only [Bool.true_and, decide_eq_true_eq, List.length_append, List.length_map] at h2
      have := scan_shift x q n (t.drop (m - 1)) (by rw [List.length_drop]; omega) (p + m) (out ++ [⟨k, (p : Int), y, v⟩]) (by simp; omega)
      have e1 : x ++ (out ++ ([⟨k, (p : Int), y, v⟩] : List lex_Token)).map (sh q) = x ++ out.map (sh q) ++ [⟨k, ((p + q : Nat) : Int), y, v⟩] := by
        rw [List.map_append, ← List.append_assoc]
        rfl
      rw [e1, show p + m + q = p + q + m by omega] at this
      exact this
section
open Go Classical
theorem w_pSame (a b : List pred_Node) (hl : a.length ≤ 1000000000) : W (fun N => s_pred_Same N a b) (· = decide (a = b)) := by
  simp only [s_pred_Same]
  refine wid.2 ?_
  simp only [s_slices_Equal_pred_Node, len_ne, W.cond, W.ret]
  refine ⟨fun h => ?_, fun h => ?_⟩
  · have h : ¬ a.length = b.length := by simpa using h
    rw [decide_eq_false (fun he => h (by rw [he]))]
  · refine w_eqs (by simpa using h) hl (fun F i e g h1 h2 h3 h4 => ?_) (fun F h => ?_)
    · simp only [s_slices_Equal_pred_Node_1, h1, h2, h3, h4, Option.bind_some, cond_true, gd_true, eqN_iff]
      refine ⟨fun he => ?_, fun he r hr => ?_⟩
      · simp only [decide_eq_false he, Bool.not_false, cond_true]; exact W.ret.2 rfl
      · simp only [decide_eq_true he, Bool.not_true, cond_false]; exact hr
    · simp only [s_slices_Equal_pred_Node_1, h, cond_false]; exact W.ret.2 rfl
end
section
def kf (t : lex_Token) : Int × List UInt8 × value_Value := (t.Kind, t.Text, t.Val)
def sq (s : List UInt8) : Int × List UInt8 × value_Value := (4, s, zv)
theorem tk_kf (Y : List lex_Token) (i : Nat) : kf (tk Y i) = ((Y.map kf)[i]?).getD (kf zT) := by
  rw [tk, List.getElem?_map]; cases Y[i]? <;> rfl
theorem is_kf {Y : List lex_Token} {i : Nat} {K : Int} {s : List UInt8} : isT' Y i K s = (((kf (tk Y i)).1 == K) && ((kf (tk Y i)).2.1 == s)) := rfl
/-- Tokens that stand in others from a place on, and closing brackets or nothing behind them. -/
structure Sm (y Y : List lex_Token) (k : Nat) : Prop where
  at_ : ∀ i, (i < y.length ∧ kf (tk Y (k + i)) = kf (tk y i)) ∨ (¬ i < y.length ∧ (kf (tk Y (k + i)) = sq [41] ∨ kf (tk Y (k + i)) = kf zT))
  len : k + y.length ≤ Y.length
section
variable {y Y : List lex_Token} {k : Nat}
theorem Sm.is (h : Sm y Y k) (i : Nat) {K : Int} {s : List UInt8} (hK : K ≠ 0) (hs : s ≠ [41]) : isT' Y (k + i) K s = isT' y i K s := by
  rcases h.at_ i with ⟨_, e⟩ | ⟨h1, e⟩
  · rw [is_kf, is_kf, e]
  · have h2 : isT' y i K s = false := by
      rw [isT', tk_out h1]
      have : (zT.Kind == K) = false := by simpa [zT] using fun e : (0 : Int) = K => hK e.symm
      rw [this]; rfl
    rw [h2]
    rcases e with e | e
    · rw [is_kf, e]
      have : ((sq [41]).2.1 == s) = false := by simpa [sq] using fun e : [41] = s => hs e.symm
      rw [this, Bool.and_false]
    · rw [is_kf, e]
      have : ((kf zT).1 == K) = false := by simpa [kf, zT] using fun e : (0 : Int) = K => hK e.symm
      rw [this]; rfl
theorem Sm.tk (h : Sm y Y k) {i : Nat} (hk : (tk y i).Kind ≠ 0) : (tk Y (k + i)).Kind = (tk y i).Kind ∧ (tk Y (k + i)).Text = (tk y i).Text ∧ (tk Y (k + i)).Val = (tk y i).Val := by
  rcases h.at_ i with ⟨_, e⟩ | ⟨h1, e⟩
  · simp only [kf, Prod.mk.injEq] at e; exact e
  · rw [tk_out h1] at hk; exact absurd rfl hk
theorem Sm.ne (h : Sm y Y k) {i : Nat} {K : Int} (h0 : K ≠ 0) (h4 : K ≠ 4) (hk : (Go.Proofs.YtfmibkkigkgecaaGreatDoor.V.tk y i).Kind ≠ K) : (Go.Proofs.YtfmibkkigkgecaaGreatDoor.V.tk Y (k + i)).Kind ≠ K := by
  rcases h.at_ i with ⟨_, e⟩ | ⟨h1, e | e⟩
  · simp only [kf, Prod.mk.injEq] at e; rw [e.1]; exact hk
  · simp only [kf, sq, Prod.mk.injEq] at e; rw [e.1]; exact fun e => h4 e.symm
  · simp only [kf, zT, Prod.mk.injEq] at e; rw [e.1]; exact fun e => h0 e.symm
/-- What is told there as here, unless it is too deep there. -/
def Qk (k : Nat) (a b : RR) : Prop := ∀ l j, a = .inr (l, j) → b = .inr (l, k + j) ∨ ∃ q, b = .inl (15, q)
theorem U_sim (h : Sm y Y k) {i : Nat} {n : pred_Node} {j : Nat} (hu : U y i = .inr (n, j)) : U Y (k + i) = .inr (n, k + j) := by
  unfold U at hu ⊢
  rw [h.is i (by decide) (by decide)]
  by_cases h1 : isT' y i 4 [45] = true
  · rw [if_pos h1] at hu ⊢
    rw [Nat.add_assoc]
    by_cases h2 : (tk y (i + 1)).Val.Kind = 1 ∧ (tk y (i + 1)).Kind = 3
    · obtain ⟨e1, e2, e3⟩ := h.tk (i := i + 1) (by rw [h2.2]; decide)
      rw [if_pos h2] at hu
      rw [e1, e3, if_pos h2]
      cases hu; rfl
    · rw [if_neg h2] at hu; cases hu
  rw [if_neg h1] at hu ⊢
  by_cases h3 : (tk y i).Kind = 3
  · obtain ⟨e1, e2, e3⟩ := h.tk (i := i) (by rw [h3]; decide)
    rw [if_pos h3] at hu
    rw [e1, if_pos h3, e3]
    cases hu; rfl
  rw [if_neg h3] at hu
  rw [if_neg (h.ne (by decide) (by decide) h3)]
  by_cases h4 : (tk y i).Kind = 1
  · obtain ⟨e1, e2, e3⟩ := h.tk (i := i) (by rw [h4]; decide)
    rw [if_pos h4] at hu
    rw [e1, if_pos h4, e2, Nat.add_assoc, Nat.add_assoc, h.is (i + 1) (by decide) (by decide)]
    by_cases h5 : isT' y (i + 1) 4 [46] = true
    · rw [if_pos h5] at hu ⊢
      by_cases h6 : (tk y (i + 2)).Kind = 1
      · obtain ⟨e1, e2, e3⟩ := h.tk (i := i + 2) (by rw [h6]; decide)
        rw [if_pos h6] at hu
        rw [e1, if_pos h6, e2]
        cases hu; rfl
      · rw [if_neg h6] at hu; cases hu
    · rw [if_neg h5] at hu ⊢
      cases hu; rfl
  · rw [if_neg h4] at hu; cases hu
theorem UR_sim (h : Sm y Y k) (i : Nat) : Qk k (UR y i) (UR Y (k + i)) := fun l j hu => by
  unfold UR at hu
  cases g : U y i with
  | inl x => rw [g] at hu; cases hu
  | inr p =>
    obtain ⟨n, j'⟩ := p
    rw [g] at hu; cases hu
    left
    unfold UR
    rw [U_sim h g]
theorem fw_lpG {f : Nat → RR} {sep : Nat → Option Int} (hf : ∀ j r j', f j = .inr (r, j') → j ≤ j') : ∀ (n : Nat) (l : List pred_Node) (j : Nat) (l' : List pred_Node) (j' : Nat), lpG f sep n l j = .inr (l', j') → j ≤ j'
  | 0, l, j, l', j', h => by cases h; omega
  | n + 1, l, j, l', j', h => by
    cases hs : sep j with
    | none => rw [lpG_end hs] at h; cases h; omega
    | some c =>
      cases g : f (j + 1) with
      | inl x => rw [lpG_inl hs g] at h; cases h
      | inr p =>
        rw [lpG_inr (r := p.1) (j' := p.2) hs g] at h
        have h1 := fw_lpG hf n _ _ _ _ h
        have h2 := hf _ p.1 p.2 g
        omega
theorem lpQ {f F : Nat → RR} {sep SEP : Nat → Option Int} (hf : ∀ j, Qk k (f j) (F (k + j))) (hs : ∀ j, SEP (k + j) = sep j) (hlt : ∀ j c, sep j = some c → j < y.length) (fw : ∀ j r j', f j = .inr (r, j') → j ≤ j') :
    ∀ (n m : Nat) (l : List pred_Node) (j : Nat), y.length - j ≤ n → n ≤ m → Qk k (lpG f sep n l j) (lpG F SEP m l (k + j))
  | n, m, l, j, h1, h2 => by
    intro l' j' h
    cases g : sep j with
    | none =>
      rw [lpG_end g] at h; cases h
      left; rw [lpG_end (by rw [hs, g])]
    | some c =>
      have hj := hlt j c g
      cases n with
      | zero => omega
      | succ n =>
        obtain ⟨m, rfl⟩ : ∃ z, m = z + 1 := ⟨m - 1, by omega⟩
        cases gf : f (j + 1) with
        | inl x => rw [lpG_inl g gf] at h; cases h
        | inr p =>
          have h3 := fw _ p.1 p.2 gf
          rw [lpG_inr (r := p.1) (j' := p.2) g gf] at h
          rcases hf (j + 1) p.1 p.2 gf with e | ⟨q, e⟩
          · rw [lpG_inr (r := p.1) (j' := k + p.2) (by rw [hs, g]) (by rw [Nat.add_assoc]; exact e)]
            exact lpQ hf hs hlt fw n m _ p.2 (by omega) (by omega) l' j' h
          · right
            exact ⟨q, lpG_inl (by rw [hs, g]) (by rw [Nat.add_assoc]; exact e)⟩
theorem fw_UR {i : Nat} {l : List pred_Node} {j : Nat} (h : UR y i = .inr (l, j)) : i ≤ j := by
  have := U_ok (y := y) (i := i)
  unfold UR at h
  cases g : U y i with
  | inl x => rw [g] at h; cases h
  | inr p => rw [g] at this h; cases h; exact Nat.le_of_lt this.1
theorem sepS_l2 {j : Nat} {c : Int} (h : sepS y j = some c) : j < y.length := by
  unfold sepS at h
  split at h
  · rename_i h1; exact kind_lt (by decide) (isT_kind h1).1
  · split at h
    · rename_i h1; exact kind_lt (by decide) (isT_kind h1).1
    · cases h
theorem SU_sim (h : Sm y Y k) (i : Nat) : Qk k (SU y i) (SU Y (k + i)) := fun l j hu => by
  have hs : ∀ j, sepS Y (k + j) = sepS y j := fun j => by simp only [sepS, h.is j (K := 4) (s := [43]) (by decide) (by decide), h.is j (K := 4) (s := [45]) (by decide) (by decide)]
  unfold SU at hu ⊢
  cases g : UR y i with
  | inl x => rw [g] at hu; cases hu
  | inr p =>
    rw [g] at hu
    simp only at hu
    rcases UR_sim h i p.1 p.2 g with e | ⟨q, e⟩
    · rw [e]
      have := h.len
      exact lpQ (UR_sim h) hs (fun j c => sepS_l2) (fun j r j' => fw_UR) _ _ _ _ (Nat.le_refl _) (by omega) l j hu
    · exact .inr ⟨q, by rw [e]⟩
theorem fw_SU {i : Nat} {l : List pred_Node} {j : Nat} (h : SU y i = .inr (l, j)) : i ≤ j := by
  unfold SU at h
  cases g : UR y i with
  | inl x => rw [g] at h; cases h
  | inr p =>
    rw [g] at h
    have h1 := fw_UR (l := p.1) (j := p.2) g
    have h2 := fw_lpG (fun j r j' => fw_UR) _ _ _ _ _ h
    omega
theorem fw_row {f : Nat → RR} {sep : Nat → Option Int} (hf : ∀ j r j', f j = .inr (r, j') → j ≤ j') {i : Nat} {l : List pred_Node} {j : Nat} (h : rowS y f sep i = .inr (l, j)) : i ≤ j := by
  unfold rowS at h
  cases g : f i with
  | inl x => rw [g] at h; cases h
  | inr p =>
    rw [g] at h
    have h1 := hf _ p.1 p.2 g
    have h2 := fw_lpG hf _ _ _ _ _ h
    omega
theorem fw_part {p : SPT} {d : Int} (h1 : ∀ d i l j, p.1 d i = .inr (l, j) → i ≤ j) (h2 : ∀ d i l j, p.2.2 d i = .inr (l, j) → i ≤ j) {i : Nat} {l : List pred_Node} {j : Nat} (h : partS y p d i = .inr (l, j)) : i ≤ j := by
  unfold partS at h
  by_cases hk : isT' y i 2 nt = true ∨ isT' y i 4 [40] = true
  · rw [if_pos hk] at h
    by_cases hd : 16 ≤ d
    · rw [if_pos hd] at h; cases h
    rw [if_neg hd] at h
    by_cases hn : isT' y i 2 nt = true
    · rw [if_pos hn] at h
      cases g : p.2.2 (d + 1) (i + 1) with
      | inl x => rw [g] at h; cases h
      | inr q => rw [g] at h; have := h2 _ _ q.1 q.2 g; cases h; omega
    · rw [if_neg hn] at h
      cases g : p.1 (d + 1) (i + 1) with
      | inl x => rw [g] at h; cases h
      | inr q =>
        rw [g] at h; have := h1 _ _ q.1 q.2 g
        simp only at h
        split at h
        · cases h; omega
        · cases h
  · rw [if_neg hk] at h
    cases g : SU y i with
    | inl x => rw [g] at h; cases h
    | inr q =>
      have := fw_SU (l := q.1) (j := q.2) g
      rw [g] at h; simp only at h
      split at h
      · cases g2 : SU y (q.2 + 1) with
        | inl x => rw [g2] at h; cases h
        | inr r => have := fw_SU (l := r.1) (j := r.2) g2; rw [g2] at h; cases h; omega
      · cases h
theorem fw_SPP : ∀ n : Nat, (∀ d i l j, (SPP y n).1 d i = .inr (l, j) → i ≤ j) ∧ (∀ d i l j, (SPP y n).2.1 d i = .inr (l, j) → i ≤ j) ∧ (∀ d i l j, (SPP y n).2.2 d i = .inr (l, j) → i ≤ j)
  | 0 => ⟨fun _ _ _ _ h => (by cases h), fun _ _ _ _ h => (by cases h), fun _ _ _ _ h => (by cases h)⟩
  | n + 1 => by
    obtain ⟨a, b, c⟩ := fw_SPP n
    exact ⟨fun d i l j h => fw_row (fun j r j' => b d j r j') h, fun d i l j h => fw_row (fun j r j' => c d j r j') h, fun d i l j h => fw_part a c h⟩
theorem row_sim (h : Sm y Y k) {f F : Nat → RR} {s : List UInt8} {c : Int} (hf : ∀ j, Qk k (f j) (F (k + j))) (fw : ∀ j r j', f j = .inr (r, j') → j ≤ j') (hs : s ≠ [41]) (i : Nat) : Qk k (rowS y f (sepK y s c) i) (rowS Y F (sepK Y s c) (k + i)) := fun l j hu => by
  have hse : ∀ j, sepK Y s c (k + j) = sepK y s c j := fun j => by simp only [sepK, h.is j (K := 2) (s := s) (by decide) hs]
  unfold rowS at hu ⊢
  cases g : f i with
  | inl x => rw [g] at hu; cases hu
  | inr p =>
    rw [g] at hu
    simp only at hu
    rcases hf i p.1 p.2 g with e | ⟨q, e⟩
    · rw [e]
      have := h.len
      exact lpQ hf hse (fun j c' hc => (sepK_lt hc).1) fw _ _ _ _ (Nat.le_refl _) (by omega) l j hu
    · exact .inr ⟨q, by rw [e]⟩
theorem part_sim (h : Sm y Y k) {p P : SPT} {d d' : Int} (h1 : ¬ 16 ≤ d' → ∀ i, Qk k (p.1 (d + 1) i) (P.1 (d' + 1) (k + i))) (h2 : ¬ 16 ≤ d' → ∀ i, Qk k (p.2.2 (d + 1) i) (P.2.2 (d' + 1) (k + i))) (i : Nat) : Qk k (partS y p d i) (partS Y P d' (k + i)) := fun l j hu => by
  unfold partS at hu ⊢
  rw [h.is i (K := 2) (s := nt) (by decide) (by decide), h.is i (K := 4) (s := [40]) (by decide) (by decide)]
  by_cases hk : isT' y i 2 nt = true ∨ isT' y i 4 [40] = true
  · rw [if_pos hk] at hu ⊢
    by_cases hd : 16 ≤ d
    · rw [if_pos hd] at hu; cases hu
    rw [if_neg hd] at hu
    by_cases hd' : 16 ≤ d'
    · rw [if_pos hd']; exact .inr ⟨_, rfl⟩
    rw [if_neg hd']
    rw [Nat.add_assoc]
    by_cases hn : isT' y i 2 nt = true
    · rw [if_pos hn] at hu ⊢
      cases g : p.2.2 (d + 1) (i + 1) with
      | inl x => rw [g] at hu; cases hu
      | inr q =>
        rw [g] at hu; cases hu
        rcases h2 hd' (i + 1) q.1 q.2 g with e | ⟨z, e⟩
        · rw [e]; exact .inl rfl
        · rw [e]; exact .inr ⟨_, rfl⟩
    · rw [if_neg hn] at hu ⊢
      cases g : p.1 (d + 1) (i + 1) with
      | inl x => rw [g] at hu; cases hu
      | inr q =>
        rw [g] at hu
        simp only at hu
        rcases h1 hd' (i + 1) q.1 q.2 g with e | ⟨z, e⟩
        · rw [e]
          by_cases hc : isT' y q.2 4 [41] = true
          · rw [if_pos hc] at hu; cases hu
            obtain ⟨k1, k2⟩ := isT_kind hc
            obtain ⟨e1, e2, e3⟩ := h.tk (i := q.2) (by rw [k1]; decide)
            have : isT' Y (k + q.2) 4 [41] = true := by rw [isT', e1, e2]; exact hc
            simp only [this, if_true]
            exact .inl rfl
          · rw [if_neg hc] at hu; cases hu
        · rw [e]; exact .inr ⟨_, rfl⟩
  · rw [if_neg hk] at hu ⊢
    cases g : SU y i with
    | inl x => rw [g] at hu; cases hu
    | inr q =>
      rw [g] at hu
      simp only at hu
      rcases SU_sim h i q.1 q.2 g with e | ⟨z, e⟩
      · rw [e]
        by_cases hc : (tk y q.2).Kind = 4 ∧ opV (tk y q.2).Text ≠ 0
        · obtain ⟨e1, e2, e3⟩ := h.tk (i := q.2) (by rw [hc.1]; decide)
          rw [if_pos hc] at hu
          simp only [e1, e2, if_pos hc]
          cases g2 : SU y (q.2 + 1) with
          | inl x => rw [g2] at hu; cases hu
          | inr r =>
            rw [g2] at hu; cases hu
            rw [Nat.add_assoc]
            rcases SU_sim h (q.2 + 1) r.1 r.2 g2 with e | ⟨z, e⟩
            · rw [e]; exact .inl rfl
            · rw [e]; exact .inr ⟨_, rfl⟩
        · rw [if_neg hc] at hu; cases hu
      · rw [e]; exact .inr ⟨_, rfl⟩
theorem SPP_sim (h : Sm y Y k) : ∀ (n n' : Nat) (d d' : Int) (i : Nat), d' ≤ 16 →
    (3 * (16 - d') + 3 ≤ n' → Qk k ((SPP y n).1 d i) ((SPP Y n').1 d' (k + i))) ∧
    (3 * (16 - d') + 2 ≤ n' → Qk k ((SPP y n).2.1 d i) ((SPP Y n').2.1 d' (k + i))) ∧
    (3 * (16 - d') + 1 ≤ n' → Qk k ((SPP y n).2.2 d i) ((SPP Y n').2.2 d' (k + i)))
  | 0, n', d, d', i, _ => ⟨fun _ _ _ hu => (by cases hu), fun _ _ _ hu => (by cases hu), fun _ _ _ hu => (by cases hu)⟩
  | n + 1, n', d, d', i, h16 => by
    obtain ⟨fa, fb, fc⟩ := fw_SPP (y := y) n
    refine ⟨fun hn => ?_, fun hn => ?_, fun hn => ?_⟩
    · obtain ⟨m, rfl⟩ : ∃ z, n' = z + 1 := ⟨n' - 1, by omega⟩
      exact row_sim h (fun j => (SPP_sim h n m d d' j h16).2.1 (by omega)) (fun j r j' => fb d j r j') (by decide) i
    · obtain ⟨m, rfl⟩ : ∃ z, n' = z + 1 := ⟨n' - 1, by omega⟩
      exact row_sim h (fun j => (SPP_sim h n m d d' j h16).2.2 (by omega)) (fun j r j' => fc d j r j') (by decide) i
    · obtain ⟨m, rfl⟩ : ∃ z, n' = z + 1 := ⟨n' - 1, by omega⟩
      exact part_sim h (fun hd j => (SPP_sim h n m (d + 1) (d' + 1) j (by omega)).1 (by omega)) (fun hd j => (SPP_sim h n m (d + 1) (d' + 1) j (by omega)).2.2 (by omega)) i
/-- Round brackets about it. -/
theorem brk_sim (h : Sm y Y k) (hk : k ≤ 8) (ho : ∀ i, i < k → kf (tk Y i) = sq [40]) (hc : ∀ i, i < k → kf (tk Y (k + y.length + i)) = sq [41]) (he : kf (tk Y (k + y.length + k)) = kf zT) {l : List pred_Node} (hl : (SPP y 51).1 0 0 = .inr (l, y.length)) :
    ∀ (m b n : Nat), b + m = k → 3 * (16 - (b : Int)) + 3 ≤ n → (SPP Y n).1 b b = .inr (l, k + y.length + m) ∨ ∃ q, (SPP Y n).1 b b = .inl (15, q)
  | 0, b, n, hb, hn => by
    obtain rfl : b = k := by omega
    exact (SPP_sim h 51 n 0 b 0 (by omega)).1 hn l _ hl
  | m + 1, b, n, hb, hn => by
    obtain ⟨n, rfl⟩ : ∃ z, n = z + 1 + 1 + 1 := ⟨n - 3, by omega⟩
    have h40 := ho b (by omega)
    have e1 : isT' Y b 2 nt = false := by rw [is_kf, h40]; rfl
    have e2 : isT' Y b 4 [40] = true := by rw [is_kf, h40]; rfl
    have e3 : isT' Y (k + y.length + m) 4 [41] = true := by rw [is_kf, hc m (by omega)]; rfl
    have e4 : ∀ s, isT' Y (k + y.length + (m + 1)) 2 s = false := fun s => by
      by_cases hm : m + 1 < k
      · rw [is_kf, hc _ hm]; rfl
      · rw [show m + 1 = k by omega, is_kf, he]; rfl
    have key : (SPP Y (n + 1)).2.2 b b = .inr (l, k + y.length + (m + 1)) ∨ ∃ q, (SPP Y (n + 1)).2.2 b b = .inl (15, q) := by
      show partS Y (SPP Y n) b b = _ ∨ ∃ q, partS Y (SPP Y n) b b = _
      unfold partS
      rw [if_pos (.inr e2), if_neg (by omega), if_neg (by rw [e1]; decide), show (b : Int) + 1 = ((b + 1 : Nat) : Int) by omega]
      rcases brk_sim h hk ho hc he hl m (b + 1) n (by omega) (by omega) with e | ⟨q, e⟩
      · rw [e]; simp only [e3, if_true]; exact .inl rfl
      · rw [e]; exact .inr ⟨_, rfl⟩
    have up : ∀ (f : Nat → RR) (s : List UInt8) (c : Int), (f b = .inr (l, k + y.length + (m + 1)) ∨ ∃ q, f b = .inl (15, q)) → rowS Y f (sepK Y s c) b = .inr (l, k + y.length + (m + 1)) ∨ ∃ q, rowS Y f (sepK Y s c) b = .inl (15, q) := fun f s c hf => by
      unfold rowS
      rcases hf with e | ⟨q, e⟩
      · rw [e]; simp only
        rw [lpG_end (by simp only [sepK, e4, Bool.false_eq_true, if_false])]; exact .inl rfl
      · rw [e]; exact .inr ⟨_, rfl⟩
    exact up _ _ _ (up _ _ _ key)
end
end
section
open Go Classical
def wr : Nat → List UInt8 → List UInt8
  | 0, s => s
  | k + 1, s => 40 :: (wr k s ++ [10, 41])
def tl : Nat → List UInt8
  | 0 => []
  | k + 1 => 10 :: 41 :: tl k
theorem tl_snoc : ∀ k, tl k ++ [10, 41] = tl (k + 1)
  | 0 => rfl
  | k + 1 => by
    have := tl_snoc k
    simp only [tl, List.cons_append] at this ⊢
    rw [this]
theorem wr_eq (s : List UInt8) : ∀ k, wr k s = List.replicate k 40 ++ (s ++ tl k)
  | 0 => by simp [wr, tl]
  | k + 1 => by
    rw [wr, wr_eq s k, ← tl_snoc k, List.replicate_succ]
    simp
theorem wr_len (s : List UInt8) (k : Nat) : (wr k s).length = s.length + 3 * k := by
  induction k with
  | zero => rfl
  | succ k ih => simp only [wr, List.length_cons, List.length_append, List.length_nil, ih]; omega
theorem scan_open (r : List UInt8) : ∀ (k p : Nat) (out : List lex_Token), out.length + k ≤ 200 → ∃ X : List lex_Token, X.map kf = List.replicate k (sq [40]) ∧ scanR (List.replicate k 40 ++ r) p out = scanR r (p + k) (out ++ X)
  | 0, p, out, _ => ⟨[], rfl, by simp⟩
  | k + 1, p, out, h => by
    obtain ⟨X, h1, h2⟩ := scan_open r k (p + 1) (out ++ [⟨4, (p : Int), [40], zv⟩]) (by simp; omega)
    refine ⟨⟨4, (p : Int), [40], zv⟩ :: X, by rw [List.map_cons, h1]; rfl, ?_⟩
    rw [List.replicate_succ, List.cons_append, scanR_cons, show blank 40 = false from by decide, decide_eq_false (by omega : ¬ out.length = 200), Bool.and_false, show oneR (40 :: (List.replicate k 40 ++ r)) = .inl (4, [40], zv, 1) from rfl]
    simp only [Bool.false_eq_true, if_false, Nat.sub_self, List.drop_zero]
    rw [h2, List.append_assoc, Nat.add_assoc, Nat.add_comm 1 k]; rfl
theorem scan_close : ∀ (k p : Nat) (out : List lex_Token), out.length ≤ 200 → (∃ a, scanR (tl k) p out = .inr (7, a)) ∨ ∃ Z : List lex_Token, Z.map kf = List.replicate k (sq [41]) ∧ scanR (tl k) p out = .inl (out ++ Z)
  | 0, p, out, _ => .inr ⟨[], rfl, by rw [tl, scanR_nil, List.append_nil]⟩
  | k + 1, p, out, h => by
    rw [tl, scanR_cons, if_pos (by decide), scanR_cons, show blank 41 = false from by decide, show known 41 = true from by decide, Bool.true_and]
    by_cases h2 : out.length = 200
    · rw [decide_eq_true h2]; exact .inl ⟨_, rfl⟩
    · rw [decide_eq_false h2, show oneR (41 :: tl k) = .inl (4, [41], zv, 1) from rfl]
      simp only [Bool.false_eq_true, if_false, Nat.sub_self, List.drop_zero]
      rcases scan_close k (p + 1 + 1) (out ++ [⟨4, ((p + 1 : Nat) : Int), [41], zv⟩]) (by simp; omega) with h3 | ⟨Z, h3, h4⟩
      · exact .inl h3
      · exact .inr ⟨⟨4, ((p + 1 : Nat) : Int), [41], zv⟩ :: Z, by rw [List.map_cons, h3]; rfl, by rw [h4, List.append_assoc]; rfl⟩
theorem dl10 : Dl 10 := ⟨by decide, by decide, by decide, by decide, by decide⟩
theorem kf_sh (q : Nat) (y : List lex_Token) : (y.map (sh q)).map kf = y.map kf := by
  rw [List.map_map]; rfl
theorem RD_inr {s : List UInt8} {a : List pred_Node} (h : RD s = .inr a) (ha : a ≠ []) : ∃ y, scan s = .inl y ∧ (SPP y 51).1 0 0 = .inr (a, y.length) ∧ chk a = 0 ∧ y.length ≤ 200 ∧ y ≠ [] := by
  unfold RD at h
  cases g : scan s with
  | inr z => rw [g] at h; cases h
  | inl y =>
    have hy := (scan_inl g).1
    rw [g] at h; simp only at h
    split at h
    · cases h; exact absurd rfl ha
    · rename_i h0
      cases k : PAR y 0 s.length with
      | inl z => rw [k] at h; cases h
      | inr p =>
        obtain ⟨l, j⟩ := p
        obtain ⟨k1, k2, k3, k4⟩ := PAR_len (by omega) (Nat.zero_le _) k
        rw [k] at h; simp only at h
        split at h
        · cases h
        · cases h
          obtain rfl : j = y.length := by omega
          refine ⟨y, rfl, ?_, k4, hy, fun e => h0 (by rw [e]; rfl)⟩
          unfold PAR at k
          cases q : (SPP y 51).1 0 0 with
          | inl x => rw [show ((0 : Nat)) = 0 from rfl, q] at k; cases k
          | inr p =>
            rw [q] at k; simp only at k
            split at k
            · have k := Sum.inr.inj k
              have e1 : p.1 = a := (Prod.mk.inj k).1
              have e2 : p.2 = y.length := (Prod.mk.inj k).2
              rw [← e1, ← e2]
            · cases k
theorem RD_wr {s : List UInt8} {a : List pred_Node} (h : RD s = .inr a) (ha : a ≠ []) (hs : s.length ≤ 500) {k : Nat} (hk : k ≤ 8) : RD (wr k s) = .inr a ∨ ∃ c p, (c = 15 ∨ c = 7) ∧ RD (wr k s) = .inl (c, p) := by
  cases k with
  | zero => exact .inl h
  | succ m =>
    obtain ⟨y, h1, h2, h3, h4, h5⟩ := RD_inr h ha
    have full : ∀ q, scan (wr (m + 1) s) = .inr (7, q) → ∃ c p, (c = 15 ∨ c = 7) ∧ RD (wr (m + 1) s) = .inl (c, p) := fun q hq => ⟨7, q, .inr rfl, by unfold RD; rw [hq]⟩
    have hlen := wr_len s (m + 1)
    have hsc : scan (wr (m + 1) s) = scanR (wr (m + 1) s) 0 [] := by rw [scan, if_neg (by omega)]
    obtain ⟨X, x1, x2⟩ := scan_open (s ++ tl (m + 1)) (m + 1) 0 [] (by simp; omega)
    rw [← wr_eq, Nat.zero_add, List.nil_append] at x2
    have hX : X.length = m + 1 := by have := congrArg List.length x1; simpa using this
    have hy : scanR s 0 [] = .inl y := by
      unfold scan at h1
      split at h1
      · cases h1
      · exact h1
    obtain ⟨q1, q2, q3⟩ := scan_app 10 dl10 (by decide) (by decide) (41 :: tl m) _ s (Nat.le_refl _) (m + 1) X
    have hsh := scan_shift X (m + 1) _ s (Nat.le_refl _) 0 [] (by simp; omega)
    rw [Nat.zero_add, show X ++ List.map (sh (m + 1)) [] = X by simp, hy] at hsh
    rw [hsc, x2] at full
    rcases hsh with ⟨q, hq⟩ | hq
    · right
      exact full q (q2 7 q hq (by decide))
    · have hmid := q1 _ hq
      have htl := scan_close (m + 1) (m + 1 + s.length) (X ++ y.map (sh (m + 1)))
      rw [tl, scanR_cons, if_pos (by decide), ← hmid] at htl
      by_cases hcap : (X ++ y.map (sh (m + 1))).length ≤ 200
      · rcases htl hcap with ⟨q, hq⟩ | ⟨Z, z1, z2⟩
        · right
          exact full q hq
        · have hZ : Z.length = m + 1 := by have := congrArg List.length z1; simpa using this
          have hscan : scan (wr (m + 1) s) = .inl (X ++ y.map (sh (m + 1)) ++ Z) := by rw [hsc, x2]; exact z2
          generalize hY : X ++ y.map (sh (m + 1)) ++ Z = Y at hscan
          have hYl : Y.length = (m + 1) + y.length + (m + 1) := by rw [← hY]; simp only [List.length_append, List.length_map]; omega
          have hkf : Y.map kf = List.replicate (m + 1) (sq [40]) ++ (y.map kf ++ List.replicate (m + 1) (sq [41])) := by
            rw [← hY, List.map_append, List.map_append, x1, kf_sh, z1, List.append_assoc]
          have at1 : ∀ i, kf (tk Y (m + 1 + i)) = ((y.map kf ++ List.replicate (m + 1) (sq [41]))[i]?).getD (kf zT) := fun i => by
            rw [tk_kf, hkf, List.getElem?_append_right (by simp)]
            simp
          have at2 : ∀ i, kf (tk Y (m + 1 + (y.length + i))) = ((List.replicate (m + 1) (sq [41]))[i]?).getD (kf zT) := fun i => by
            rw [at1, List.getElem?_append_right (by simp)]
            simp
          have at3 : ∀ i, i < m + 1 → kf (tk Y (m + 1 + (y.length + i))) = sq [41] := fun i hi => by
            rw [at2, List.getElem?_replicate, if_pos hi]; rfl
          have at4 : ∀ i, ¬ i < m + 1 → kf (tk Y (m + 1 + (y.length + i))) = kf zT := fun i hi => by
            rw [at2, List.getElem?_replicate, if_neg hi]; rfl
          have hSm : Sm y Y (m + 1) := ⟨fun i => by
            by_cases hi : i < y.length
            · left
              refine ⟨hi, ?_⟩
              rw [at1, List.getElem?_append_left (by simpa using hi), tk_kf]
            · right
              refine ⟨hi, ?_⟩
              obtain ⟨j, rfl⟩ : ∃ j, i = y.length + j := ⟨i - y.length, by omega⟩
              by_cases hj : j < m + 1
              · exact .inl (at3 j hj)
              · exact .inr (at4 j hj), by omega⟩
          have ho : ∀ i, i < m + 1 → kf (tk Y i) = sq [40] := fun i hi => by
            rw [tk_kf, hkf, List.getElem?_append_left (by simpa using hi), List.getElem?_replicate, if_pos hi]; rfl
          have hc : ∀ i, i < m + 1 → kf (tk Y (m + 1 + y.length + i)) = sq [41] := fun i hi => by rw [Nat.add_assoc]; exact at3 i hi
          have he : kf (tk Y (m + 1 + y.length + (m + 1))) = kf zT := by rw [Nat.add_assoc]; exact at4 _ (by omega)
          have hbrk := brk_sim hSm hk ho hc he h2 (m + 1) 0 51 (by omega) (by omega)
          have hY0 : ¬ Y.length = 0 := by omega
          rcases hbrk with e | ⟨q, e⟩
          · left
            have hp : PAR Y 0 (wr (m + 1) s).length = .inr (a, m + 1 + y.length + (m + 1)) := by
              unfold PAR
              rw [show (SPP Y 51).1 0 0 = _ from e]
              simp only [h3, if_true]
            unfold RD
            rw [hscan]
            simp only [if_neg hY0, hp, if_neg (show ¬ m + 1 + y.length + (m + 1) < Y.length by omega)]
          · right
            have hp : PAR Y 0 (wr (m + 1) s).length = .inl (15, plc Y (wr (m + 1) s).length q) := by
              unfold PAR
              rw [show (SPP Y 51).1 0 0 = _ from e]
            refine ⟨15, plc Y (wr (m + 1) s).length q, .inl rfl, ?_⟩
            unfold RD
            rw [hscan]
            simp only [if_neg hY0, hp]
      · -- too many tokens within: told at once
        exfalso
        have := scanR_n _ s (Nat.le_refl _) (by omega) hq
        exact hcap this
theorem u8_b {n : Int} (h : inK .u8 n) : 0 ≤ n ∧ n ≤ 255 := ⟨(show IntKind.u8.min = 0 by decide) ▸ h.1, (show IntKind.u8.max = 255 by decide) ▸ h.2⟩
theorem full_PredtextBrackets (s : List UInt8) (n : Int) (hs : okS s) (hn : inK .u8 n) : W (fun N => s_law12_PredtextBrackets N s n) (· = true) := by
  simp only [s_law12_PredtextBrackets]
  refine W.cond.2 ⟨fun _ => aw12 _, fun h500 => ?_⟩
  have h500 := ltB_not.1 h500
  have h500 : s.length ≤ 500 := by omega
  refine W.call (p_Read s (by omega)) ?_
  rintro _ rfl
  cases hq : RD s with
  | inl x => simp only [Sum.elim_inr]; exact aw12 _
  | inr a =>
    have hla := RD_len hq
    simp only [Sum.elim_inl]
    refine W.cond.2 ⟨fun _ => aw12 _, fun h0 => ?_⟩
    have ha : a ≠ [] := fun e => by rw [e] at h0; cases h0
    obtain ⟨b1, b2⟩ := u8_b hn
    have hw : IntKind.i64.wrap (Int.tmod n 9) = ((n % 9).toNat : Int) := by
      rw [Int.tmod_eq_emod_of_nonneg b1, IntKind.wrap_i64]; omega
    have hK : (n % 9).toNat ≤ 8 := by omega
    generalize (n % 9).toNat = K at *
    refine W.lp2 (N := fun N => N) (fun t i => ∃ j : Nat, t = wr j s ∧ i = (j : Int) ∧ j ≤ K) (fun _ i => K - i.toNat) ⟨0, rfl, rfl, Nat.zero_le _⟩ ?_
    rintro F t i ⟨j, rfl, rfl, hj⟩ hnx
    have hl := wr_len s j
    simp only [s_law12_PredtextBrackets_1, hw]
    refine W.cond.2 ⟨fun hlt => ?_, fun hge => ?_⟩
    · have hlt := ltB_iff.1 hlt
      simp only [W.gd, i64b_eq]
      exact ⟨Nat.ble_eq_true_of_le (by omega), Nat.ble_eq_true_of_le (by omega), by omega, hnx _ _ ⟨j + 1, rfl, by omega, by omega⟩ (by omega)⟩
    · have hge := ltB_not.1 hge
      refine W.call (p_Read _ (by omega)) ?_
      rintro _ rfl
      rcases RD_wr hq ha h500 (show j ≤ 8 by omega) with e | ⟨c, p, hc, e⟩
      · rw [e]
        simp only [Sum.elim_inl]
        refine W.call (w_pSame a a (by omega)) fun b hb => ?_
        rw [decide_eq_true rfl] at hb
        subst hb
        simp only [cond_true]
        exact aw12 _
      · rw [e]
        simp only [Sum.elim_inr, s_fault_Code_f, s_fault_find_f, Option.bind_some, List.length_nil, show (((0 : Nat) : Int) == 0) = true from rfl, cond_true]
        rcases hc with rfl | rfl
        · simp only [show ((15 : Int) == 15) = true from rfl, cond_true]; exact aw12 _
        · simp only [show ((7 : Int) == 15) = false from rfl, show ((7 : Int) == 7) = true from rfl, cond_true, cond_false]; exact aw12 _
end
end Go.Proofs.YtfmibkkigkgecaaGreatDoor.V
