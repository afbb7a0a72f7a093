/- Tests as text: what is read holds; places of faults. No premise beyond what each theorem says. -/
import Derived.Test.YtfmibkkigkgecaaGreatDoorVP1
set_option linter.all false
set_option linter.unusedSimpArgs false
set_option linter.unusedVariables false
namespace Go.Proofs.YtfmibkkigkgecaaGreatDoor.V
open Go
section
open Go Classical
theorem PAR_ok {y : List lex_Token} {b : Nat} {e : Int} (ht : okT y) {l : List pred_Node} {j : Nat} (h : PAR y b e = .inr (l, j)) : okN l := by
  have hl := (SPP_l ht 51).1 0 b
  unfold PAR at h
  cases g : (SPP y 51).1 0 b with
  | inl x => rw [g] at h; cases h
  | inr p =>
    rw [g] at hl h
    simp only at h
    by_cases hz : chk p.1 = 0
    · rw [if_pos hz] at h; cases h; exact hl
    · rw [if_neg hz] at h; cases h
theorem RD_ok {s : List UInt8} {l : List pred_Node} (h : RD s = .inr l) : okN l ∧ chk l = 0 := by
  unfold RD at h
  cases g : scan s with
  | inr z => rw [g] at h; cases h
  | inl y =>
    obtain ⟨hy, ht⟩ := scan_inl g
    rw [g] at h; simp only at h
    split at h
    · cases h; exact ⟨fun n hn => (by simp at hn), rfl⟩
    · cases k : PAR y 0 s.length with
      | inl z => rw [k] at h; cases h
      | inr p =>
        obtain ⟨l', j⟩ := p
        have h1 := PAR_ok ht k
        have h2 := PAR_len (by omega) (Nat.zero_le _) k
        rw [k] at h; simp only at h
        split at h
        · cases h
        · cases h; exact ⟨h1, h2.2.2.2⟩
theorem plc_b {y : List lex_Token} {n : Nat} (h : Asc n 0 y) (j : Nat) : 0 ≤ plc y n j ∧ plc y n j ≤ n := by
  unfold plc
  cases g : y[j]? with
  | none => simp only; omega
  | some t =>
    have := Asc.mem h t (List.mem_of_getElem? g)
    simp only; omega
theorem PAR_at {y : List lex_Token} {b n : Nat} {c a : Int} (hA : Asc n 0 y) (h : PAR y b n = .inl (c, a)) : 0 ≤ a ∧ a ≤ n := by
  unfold PAR at h
  cases g : (SPP y 51).1 0 b with
  | inl x => rw [g] at h; cases h; exact plc_b hA _
  | inr p =>
    rw [g] at h
    simp only at h
    by_cases hz : chk p.1 = 0
    · rw [if_pos hz] at h; cases h
    · rw [if_neg hz] at h; cases h; exact plc_b hA _
theorem scan_asc {s : List UInt8} {y : List lex_Token} (h : scan s = .inl y) : Asc s.length 0 y := by
  unfold scan at h
  split at h
  · cases h
  · obtain ⟨l2, h1, h2, _⟩ := scanR_asc _ s (Nat.le_refl _) (by simp) h
    rw [h1, List.nil_append]; simpa using h2
theorem scan_at {s : List UInt8} {x : Int × Int} (h : scan s = .inr x) : 0 ≤ x.2 ∧ x.2 ≤ s.length := by
  obtain ⟨e, a⟩ := x
  unfold scan at h
  split at h
  · cases h; simp
  · have := scanR_at _ s (Nat.le_refl _) h
    simp only; omega
theorem RD_at {s : List UInt8} {x : Int × Int} (h : RD s = .inl x) : 0 ≤ x.2 ∧ x.2 ≤ s.length := by
  unfold RD at h
  cases g : scan s with
  | inr z => rw [g] at h; cases h; exact scan_at g
  | inl y =>
    have hA := scan_asc g
    rw [g] at h; simp only at h
    split at h
    · cases h
    · cases k : PAR y 0 s.length with
      | inl z => rw [k] at h; cases h; exact PAR_at hA k
      | inr p =>
        obtain ⟨l, j⟩ := p
        rw [k] at h; simp only at h
        split at h
        · rename_i hj
          cases h
          have := Asc.mem hA _ (List.mem_of_getElem? (ix_at hj).2)
          simp only; omega
        · cases h
theorem RD_nil : RD [] = .inr [] := by
  unfold RD
  rw [show scan [] = .inl [] by rw [scan, if_neg (by decide), scanR_nil]]; rfl
/-- The text of a test, as it stands. -/
theorem back {l : List pred_Node} (ho : okN l) (hc : chk l = 0) : ∃ t : List UInt8, W (fun N => s_pred_Print N l) (· = t) ∧ (t.length ≤ 600 → RD t = .inr l) := by
  by_cases hl : l = []
  · subst hl
    exact ⟨[], wall fun N => rfl, fun _ => RD_nil⟩
  · obtain ⟨t, h1, rfl, h3, h4⟩ := chk_tree ho hc hl
    exact ⟨t.tx, pr_Print h1 hc h4, RD_back h1 hc h3 h4⟩
theorem p_ReadL (s : List UInt8) (hs : 600 < s.length) : W (fun N => s_predtext_Read N s) (· = .inr ([], 5, 0)) := wall fun N => by
  have h : ltB 600 (s.length : Int) = true := ltB_iff.2 (by omega)
  simp only [s_predtext_Read, s_lex_Scan, h, cond_true, s_fault_New, show ((5 : Int) == 0) = false from rfl, cond_false, Option.bind_some, Sum.elim_inr]
theorem w_nOwn (l : List pred_Node) (hl : l.length ≤ 10000) : W (fun N => s_law11_Own N l) (· = l) := by
  simp only [s_law11_Own]
  refine wf2a (l := l) (fun pre ys => ys = pre) [] rfl rfl (by omega) rfl ?_ ?_
  · rintro F pre e rest ys hl' h1 h2 h3 rfl hn
    simp only [s_law11_Own_1, h1, h2, h3, Option.bind_some, cond_true, W.gd, true_and]
    refine ⟨Nat.ble_eq_true_of_le (by rw [hl'] at hl; simp at hl; omega), hn _ rfl⟩
  · rintro F ys h1 rfl
    simp only [s_law11_Own_1, h1, cond_false, W.ret]
theorem w_nOver (l : List pred_Node) (hl : okL (fun n : pred_Node => okS n.Val.Text) l) : W (fun N => s_law11_Over N l) fun b => ¬ 0 < b → l.length ≤ 40 ∧ ∀ n ∈ l, n.Var.length ≤ 40 ∧ n.Name.length ≤ 40 ∧ n.Val.Text.length ≤ 100 := by
  have hlen : l.length ≤ 9223372036854775807 := hl.2
  simp only [s_law11_Over, W.cond, W.ret, ltB_iff, ltB_not]
  refine ⟨fun h h2 => absurd (by omega) h2, fun h => ?_⟩
  refine wf1 (l := l) (fun pre => ∀ n ∈ pre, n.Var.length ≤ 40 ∧ n.Name.length ≤ 40 ∧ n.Val.Text.length ≤ 100) [] rfl rfl (by omega) (by simp) ?_ ?_
  · intro F pre e rest hl' h1 h2 h3 hp hn
    have he := hl.1 e (by rw [hl']; simp)
    simp only [s_law11_Over_1, h1, h2, h3, Option.bind_some, cond_true, W.cond, W.ret, gd_true, ltB_iff, ltB_not]
    refine ⟨fun _ h => absurd (by omega) h, fun h40 => ⟨fun _ h => absurd (by omega) h, fun h41 => ?_⟩⟩
    refine W.call (w_small e.Val he) fun b hb => ?_
    simp only [W.cond, W.ret, ltB_iff, ltB_not]
    refine ⟨fun _ h => absurd (by omega) h, fun hb0 => hn fun t ht => ?_⟩
    rcases List.mem_append.1 ht with ht | ht
    · exact hp t ht
    · rw [List.mem_singleton.1 ht]; exact ⟨by omega, by omega, hb (by omega)⟩
  · intro F h1 hp
    simp only [s_law11_Over_1, h1, cond_false, W.ret]
    exact fun _ => ⟨by omega, hp⟩
end
section
open Go Classical
theorem back_tail {ι : Type} [Lim ι] (N : ι → Nat) [Tends N] {l : List pred_Node} (hl : l.length ≤ 40) (ho : okN l) : W (fun i => (s_law11_Own (N i) l).bind fun own =>
    (s_pred_Print (N i) own).bind fun prin2 =>
    (s_pred_Check (N i) own).bind fun chec2 =>
    bif (chec2 != 0) then
     (s_law12_awake (N i)).bind fun awak3 =>
     some awak3
    else
     bif (ltB 600 (List.length prin2 : Int)) then
      (s_law12_awake (N i)).bind fun awak4 =>
      some awak4
     else
      (s_predtext_Read (N i) prin2).bind fun x => Sum.elim
      (fun read3 =>
       (s_pred_Same (N i) read3 own).bind fun same2 =>
       bif same2 then
        (s_law12_awake (N i)).bind fun awak5 =>
        some awak5
       else
        some false)
      (fun read4 =>
       some false) x) (· = true) := by
  refine W.call (w_nOwn l (by omega)) fun own h => ?_
  obtain rfl := h.symm
  by_cases hc : chk l = 0
  · obtain ⟨t, h1, h2⟩ := back ho hc
    refine W.call h1 fun u hu => ?_
    obtain rfl := hu.symm
    refine W.call (w_check l) fun c hc' => ?_
    rw [hc] at hc'
    subst hc'
    simp only [show ((0 : Int) != 0) = false from rfl, cond_false]
    refine W.cond.2 ⟨fun _ => aw12 _, fun h600 => ?_⟩
    have h600 := ltB_not.1 h600
    refine W.call (p_Read t (by omega)) fun r hr => ?_
    rw [h2 (by omega)] at hr
    subst hr
    simp only [Sum.elim_inl]
    refine W.call (w_pSame l l (by omega)) fun b hb => ?_
    rw [decide_eq_true rfl] at hb
    subst hb
    simp only [cond_true]
    exact aw12 _
  · refine W.call (f := fun N => s_pred_Print N l) (P := fun u => True) ?_ fun u _ => ?_
    · simp only [s_pred_Print, W.cond, W.ret]
      refine ⟨fun _ => trivial, fun _ => ?_⟩
      refine W.call (w_check l) fun c hc' => ?_
      subst hc'
      simp only [show (chk l != 0) = true by simpa using hc, cond_true]
      exact W.ret.2 trivial
    refine W.call (w_check l) fun c hc' => ?_
    subst hc'
    simp only [show (chk l != 0) = true by simpa using hc, cond_true]
    exact aw12 _
theorem full_PredtextBack (l : List pred_Node) (s : List UInt8) (hl : okL ok_pred_Node l) (hs : okS s) : W (fun N => s_law12_PredtextBack N l s) (· = true) := by
  have ho : okN l := fun n hn => inK_u64 (hl.1 n hn).2.2.2.2.2.2.1
  simp only [s_law12_PredtextBack]
  refine W.call (w_nOver l ⟨fun n hn => (hl.1 n hn).2.2.2.2.2.2.2, hl.2⟩) fun b hb => ?_
  refine W.cond.2 ⟨fun _ => aw12 _, fun hb0 => ?_⟩
  obtain ⟨l40, _⟩ := hb (by have := ltB_not.1 hb0; omega)
  refine W.cond.2 ⟨fun _ => aw12 _, fun h700 => ?_⟩
  have h700 := ltB_not.1 h700
  refine W.call (p_Read s (by omega)) ?_
  rintro _ rfl
  cases hq : RD s with
  | inl x =>
    have ha := RD_at hq
    simp only [Sum.elim_inr, List.length_nil, show (((0 : Nat) : Int) != 0) = false from rfl, cond_false, s_fault_At_f, s_fault_find_f, Option.bind_some, show ltB x.2 0 = false from ltB_not.2 ha.1, show ltB (s.length : Int) x.2 = false from ltB_not.2 ha.2]
    refine W.call (w_check []) fun c hc' => ?_
    rw [show chk [] = 0 from rfl] at hc'
    subst hc'
    simp only [show ((0 : Int) != 0) = false from rfl, cond_false]
    refine W.call (f := fun N => s_pred_Print N []) (wall (a := []) fun N => rfl) fun u hu => ?_
    subst hu
    refine W.call (p_Read [] (by simp)) fun r hr => ?_
    rw [RD_nil] at hr
    subst hr
    simp only [Sum.elim_inl, show leB (((List.length ([] : List UInt8)) : Nat) : Int) 600 = true from rfl, cond_true]
    refine W.call (w_pSame [] [] (by simp)) fun b hb => ?_
    rw [decide_eq_true rfl] at hb
    subst hb
    simp only [Bool.not_true, cond_false]
    exact back_tail (fun N => N) l40 ho
  | inr a =>
    have hla := RD_len hq
    obtain ⟨oa, ca⟩ := RD_ok hq
    simp only [Sum.elim_inl]
    refine W.call (w_check a) fun c hc' => ?_
    rw [ca] at hc'
    subst hc'
    simp only [show ((0 : Int) != 0) = false from rfl, cond_false]
    obtain ⟨t, h1, h2⟩ := back oa ca
    refine W.call h1 fun u hu => ?_
    obtain rfl := hu.symm
    by_cases h600 : t.length ≤ 600
    · refine W.call (p_Read t (by omega)) fun r hr => ?_
      rw [h2 h600] at hr
      subst hr
      simp only [Sum.elim_inl, show leB (t.length : Int) 600 = true from leB_iff.2 (by omega), cond_true]
      refine W.call (w_pSame a a (by omega)) fun b hb => ?_
      rw [decide_eq_true rfl] at hb
      subst hb
      simp only [Bool.not_true, cond_false]
      exact back_tail (fun N => N) l40 ho
    · refine W.call (p_ReadL t (by omega)) fun r hr => ?_
      subst hr
      simp only [Sum.elim_inr, show leB (t.length : Int) 600 = false from leB_not.2 (by omega), cond_false]
      exact back_tail (fun N => N) l40 ho
end
end Go.Proofs.YtfmibkkigkgecaaGreatDoor.V
