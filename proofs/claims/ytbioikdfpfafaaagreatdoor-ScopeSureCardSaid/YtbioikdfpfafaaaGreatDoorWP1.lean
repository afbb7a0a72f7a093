/- What the law is handed, told as what its plain text takes. No premise beyond what each theorem says. -/
import Derived.Test.YtbioikdfpfafaaaGreatDoorWG2
import Derived.Test.YtbioikdfpfafaaaGreatDoorWA2
import Derived.Test.YtbioikdfpfafaaaGreatDoorWA4
import Derived.Test.YtbioikdfpfafaaaGreatDoorWG1
set_option linter.all false
set_option linter.unusedSimpArgs false
set_option linter.unusedVariables false
namespace Go.Proofs.YtbioikdfpfafaaaGreatDoor.W
open Go
section
open Go.Proofs.Tryz
set_option maxRecDepth 1000000
def ok_value_Value (x : value_Value) : Prop := (inK .u8) x.Kind ∧ (inK .i64) x.N ∧ (inK .u64) x.Bits ∧ okS x.Text
def ok_pred_Node (x : pred_Node) : Prop := (inK .u8) x.Kind ∧ (inK .u8) x.Op ∧ okS x.Var ∧ okS x.Name ∧ ok_value_Value x.Val
def ok_shape_Node (x : shape_Node) : Prop := (inK .u8) x.Kind ∧ (inK .i64) x.Kids ∧ (inK .i64) x.Lo ∧ (inK .i64) x.Hi ∧ okS x.Var ∧ okS x.Type_ ∧ (okL ok_pred_Node) x.Test
def ok_shape_Pattern (x : shape_Pattern) : Prop := (okL ok_shape_Node) x.Body ∧ (inK .i64) x.Within ∧ okS x.By ∧ (inK .u8) x.Mode
theorem d_law15_ScopeSure_t5 {H : Type} (d : DataW H) (cs : List AV) (h : DAv prog 5 d cs) : ∃ x : Int, cs = [.v (.int .u8 x)] ∧ (inK .u8) x := by
  obtain ⟨x, h, h1, h2⟩ := dv_int (k := .u8) (by kernel_rfl) h
  exact ⟨x, h, h1, h2⟩
theorem d_law15_ScopeSure_t3 {H : Type} (d : DataW H) (cs : List AV) (h : DAv prog 3 d cs) : ∃ x : Int, cs = [.v (.int .i64 x)] ∧ (inK .i64) x := by
  obtain ⟨x, h, h1, h2⟩ := dv_int (k := .i64) (by kernel_rfl) h
  exact ⟨x, h, h1, h2⟩
theorem d_law15_ScopeSure_t9 {H : Type} (d : DataW H) (cs : List AV) (h : DAv prog 9 d cs) : ∃ x : List UInt8, cs = [.v (.string (bs x))] ∧ okS x := by
  obtain ⟨x, h, h1⟩ := dv_string (by kernel_rfl) h
  exact ⟨x, h, h1⟩
theorem d_law15_ScopeSure_t53 {H : Type} (d : DataW H) (cs : List AV) (h : DAv prog 53 d cs) : ∃ x : Int, cs = [.v (.int .u64 x)] ∧ (inK .u64) x := by
  obtain ⟨x, h, h1, h2⟩ := dv_int (k := .u64) (by kernel_rfl) h
  exact ⟨x, h, h1, h2⟩
theorem d_law15_ScopeSure_t112 {H : Type} (d : DataW H) (cs : List AV) (h : DAv prog 112 d cs) : ∃ x : value_Value, cs = [.v (.int .u8 x.Kind), .v (.int .i64 x.N), .v (.int .u64 x.Bits), .v (.string (bs x.Text))] ∧ ok_value_Value x := by
  obtain ⟨_, h⟩ := dv_struct (ts := [5, 3, 53, 9]) (by kernel_rfl) h
  obtain ⟨_, _, _, _, rfl, h0, h⟩ := dvs_cons h
  obtain ⟨_, _, _, _, rfl, h1, h⟩ := dvs_cons h
  obtain ⟨_, _, _, _, rfl, h2, h⟩ := dvs_cons h
  obtain ⟨_, _, _, _, rfl, h3, h⟩ := dvs_cons h
  obtain rfl := dvs_nil h
  obtain ⟨x0, rfl, k0⟩ := d_law15_ScopeSure_t5 _ _ h0
  obtain ⟨x1, rfl, k1⟩ := d_law15_ScopeSure_t3 _ _ h1
  obtain ⟨x2, rfl, k2⟩ := d_law15_ScopeSure_t53 _ _ h2
  obtain ⟨x3, rfl, k3⟩ := d_law15_ScopeSure_t9 _ _ h3
  exact ⟨⟨x0, x1, x2, x3⟩, rfl, ⟨k0, k1, k2, k3⟩⟩
theorem d_law15_ScopeSure_t114 {H : Type} (d : DataW H) (cs : List AV) (h : DAv prog 114 d cs) : ∃ x : pred_Node, cs = [.v (.int .u8 x.Kind), .v (.int .u8 x.Op), .v (.string (bs x.Var)), .v (.string (bs x.Name)), .v (.int .u8 x.Val.Kind), .v (.int .i64 x.Val.N), .v (.int .u64 x.Val.Bits), .v (.string (bs x.Val.Text))] ∧ ok_pred_Node x := by
  obtain ⟨_, h⟩ := dv_struct (ts := [5, 5, 9, 9, 112]) (by kernel_rfl) h
  obtain ⟨_, _, _, _, rfl, h0, h⟩ := dvs_cons h
  obtain ⟨_, _, _, _, rfl, h1, h⟩ := dvs_cons h
  obtain ⟨_, _, _, _, rfl, h2, h⟩ := dvs_cons h
  obtain ⟨_, _, _, _, rfl, h3, h⟩ := dvs_cons h
  obtain ⟨_, _, _, _, rfl, h4, h⟩ := dvs_cons h
  obtain rfl := dvs_nil h
  obtain ⟨x0, rfl, k0⟩ := d_law15_ScopeSure_t5 _ _ h0
  obtain ⟨x1, rfl, k1⟩ := d_law15_ScopeSure_t5 _ _ h1
  obtain ⟨x2, rfl, k2⟩ := d_law15_ScopeSure_t9 _ _ h2
  obtain ⟨x3, rfl, k3⟩ := d_law15_ScopeSure_t9 _ _ h3
  obtain ⟨x4, rfl, k4⟩ := d_law15_ScopeSure_t112 _ _ h4
  exact ⟨⟨x0, x1, x2, x3, x4⟩, rfl, ⟨k0, k1, k2, k3, k4⟩⟩
theorem d_law15_ScopeSure_t59 {H : Type} (d : DataW H) (cs : List AV) (h : DAv prog 59 d cs) : ∃ x : List pred_Node, cs = [.sl 8 (List.map eA4 x)] ∧ (okL ok_pred_Node) x := by
  obtain ⟨x, h, h1, h2⟩ := dv_slice (e := 114) (k := 8) eA4 ok_pred_Node (by kernel_rfl) (by kernel_rfl) (fun d cs h => by obtain ⟨x, h1, h2⟩ := d_law15_ScopeSure_t114 d cs h; subst h1; exact ⟨x, mkE_agg (by kernel_rfl), h2⟩) h
  exact ⟨x, h, h1, h2⟩
theorem d_law15_ScopeSure_t61 {H : Type} (d : DataW H) (cs : List AV) (h : DAv prog 61 d cs) : ∃ x : shape_Node, cs = [.v (.int .u8 x.Kind), .v (.int .i64 x.Kids), .v (.int .i64 x.Lo), .v (.int .i64 x.Hi), .v (.string (bs x.Var)), .v (.string (bs x.Type_)), .sl 8 (List.map eA4 x.Test)] ∧ ok_shape_Node x := by
  obtain ⟨_, h⟩ := dv_struct (ts := [5, 3, 3, 3, 9, 9, 59]) (by kernel_rfl) h
  obtain ⟨_, _, _, _, rfl, h0, h⟩ := dvs_cons h
  obtain ⟨_, _, _, _, rfl, h1, h⟩ := dvs_cons h
  obtain ⟨_, _, _, _, rfl, h2, h⟩ := dvs_cons h
  obtain ⟨_, _, _, _, rfl, h3, h⟩ := dvs_cons h
  obtain ⟨_, _, _, _, rfl, h4, h⟩ := dvs_cons h
  obtain ⟨_, _, _, _, rfl, h5, h⟩ := dvs_cons h
  obtain ⟨_, _, _, _, rfl, h6, h⟩ := dvs_cons h
  obtain rfl := dvs_nil h
  obtain ⟨x0, rfl, k0⟩ := d_law15_ScopeSure_t5 _ _ h0
  obtain ⟨x1, rfl, k1⟩ := d_law15_ScopeSure_t3 _ _ h1
  obtain ⟨x2, rfl, k2⟩ := d_law15_ScopeSure_t3 _ _ h2
  obtain ⟨x3, rfl, k3⟩ := d_law15_ScopeSure_t3 _ _ h3
  obtain ⟨x4, rfl, k4⟩ := d_law15_ScopeSure_t9 _ _ h4
  obtain ⟨x5, rfl, k5⟩ := d_law15_ScopeSure_t9 _ _ h5
  obtain ⟨x6, rfl, k6⟩ := d_law15_ScopeSure_t59 _ _ h6
  exact ⟨⟨x0, x1, x2, x3, x4, x5, x6⟩, rfl, ⟨k0, k1, k2, k3, k4, k5, k6⟩⟩
theorem d_law15_ScopeSure_t22 {H : Type} (d : DataW H) (cs : List AV) (h : DAv prog 22 d cs) : ∃ x : List shape_Node, cs = [.sl 7 (List.map eA5 x)] ∧ (okL ok_shape_Node) x := by
  obtain ⟨x, h, h1, h2⟩ := dv_slice (e := 61) (k := 7) eA5 ok_shape_Node (by kernel_rfl) (by kernel_rfl) (fun d cs h => by obtain ⟨x, h1, h2⟩ := d_law15_ScopeSure_t61 d cs h; subst h1; exact ⟨x, mkE_agg (by kernel_rfl), h2⟩) h
  exact ⟨x, h, h1, h2⟩
theorem d_law15_ScopeSure_t24 {H : Type} (d : DataW H) (cs : List AV) (h : DAv prog 24 d cs) : ∃ x : shape_Pattern, cs = [.sl 7 (List.map eA5 x.Body), .v (.int .i64 x.Within), .v (.string (bs x.By)), .v (.int .u8 x.Mode)] ∧ ok_shape_Pattern x := by
  obtain ⟨_, h⟩ := dv_struct (ts := [22, 3, 9, 5]) (by kernel_rfl) h
  obtain ⟨_, _, _, _, rfl, h0, h⟩ := dvs_cons h
  obtain ⟨_, _, _, _, rfl, h1, h⟩ := dvs_cons h
  obtain ⟨_, _, _, _, rfl, h2, h⟩ := dvs_cons h
  obtain ⟨_, _, _, _, rfl, h3, h⟩ := dvs_cons h
  obtain rfl := dvs_nil h
  obtain ⟨x0, rfl, k0⟩ := d_law15_ScopeSure_t22 _ _ h0
  obtain ⟨x1, rfl, k1⟩ := d_law15_ScopeSure_t3 _ _ h1
  obtain ⟨x2, rfl, k2⟩ := d_law15_ScopeSure_t9 _ _ h2
  obtain ⟨x3, rfl, k3⟩ := d_law15_ScopeSure_t5 _ _ h3
  exact ⟨⟨x0, x1, x2, x3⟩, rfl, ⟨k0, k1, k2, k3⟩⟩
theorem d_law15_ScopeSure_t45 {H : Type} (d : DataW H) (cs : List AV) (h : DAv prog 45 d cs) : ∃ x : List Int, cs = [.sl 1 (List.map eA0 x)] ∧ (okL (inK .i64)) x := by
  obtain ⟨x, h, h1, h2⟩ := dv_slice (e := 3) (k := 1) eA0 (inK .i64) (by kernel_rfl) (by kernel_rfl) (fun d cs h => by obtain ⟨x, h1, h2⟩ := d_law15_ScopeSure_t3 d cs h; subst h1; exact ⟨x, mkE_one (by kernel_rfl), h2⟩) h
  exact ⟨x, h, h1, h2⟩
theorem d_law15_ScopeSure {H : Type} (ds : List (DataW H)) (xs : List AV) (h : DAvV prog [24, 45] ds xs) :
    ∃ (p : shape_Pattern) (choices : List Int), xs = [.agg [.sl 7 (List.map eA5 p.Body), .v (.int .i64 p.Within), .v (.string (bs p.By)), .v (.int .u8 p.Mode)], .sl 1 (List.map eA0 choices)] ∧ ok_shape_Pattern p ∧ (okL (inK .i64)) choices := by
  obtain ⟨_, _, _, _, rfl, rfl, h0, h⟩ := dvv_cons h
  obtain ⟨_, _, _, _, rfl, rfl, h1, h⟩ := dvv_cons h
  obtain ⟨rfl, rfl⟩ := dvv_nil h
  obtain ⟨x0, rfl, k0⟩ := d_law15_ScopeSure_t24 _ _ h0
  obtain ⟨x1, rfl, k1⟩ := d_law15_ScopeSure_t45 _ _ h1
  exact ⟨x0, x1, by rw [mkE_agg (by kernel_rfl), mkE_one (by kernel_rfl)], k0, k1⟩
end
section
section
section
section
theorem wall {α : Type} {f : Nat → Option α} {a : α} (h : ∀ N, f N = some a) : W f (· = a) := ⟨a, ⟨0, fun N _ => h N⟩, rfl⟩
end
section
theorem ncmp (a : Int) : compare a a = .eq := by simp [compare, compareOfLessAndEq]
theorem bcmp (a : Bool) : compare a.toNat a.toNat = .eq := by simp [compare, compareOfLessAndEq]
theorem nan_iff (n : Nat) : fcmpB .neq .f64 n n = decide (9218868437227405312 < n % 9223372036854775808) := by
  have h : FloatKind.f64.format = Ieee.double := rfl
  simp only [fcmpB, h, Ieee.Format.order, Ieee.Format.read]
  have e1 : Ieee.double.signWeight = 9223372036854775808 := by decide
  have e2 : Ieee.double.infRung = 9218868437227405312 := by decide
  have e3 : Ieee.double.binade = 4503599627370496 := by decide
  rw [e1, e2, e3]
  by_cases h1 : n % 9223372036854775808 < 4503599627370496
  · rw [if_pos h1, decide_eq_false (by omega)]; simp only [Ieee.Datum.order, ncmp]; rfl
  · by_cases h2 : n % 9223372036854775808 < 9218868437227405312
    · rw [if_neg h1, if_pos h2, decide_eq_false (by omega)]; simp only [Ieee.Datum.order, ncmp]; rfl
    · by_cases h3 : n % 9223372036854775808 = 9218868437227405312
      · rw [if_neg h1, if_neg h2, if_pos h3, decide_eq_false (by omega)]; simp only [Ieee.Datum.order, bcmp]; rfl
      · rw [if_neg h1, if_neg h2, if_neg h3, decide_eq_true (by omega)]; rfl
def cln (u : Int) : Int := if 9218868437227405312 < u.toNat % 9223372036854775808 then 9221120237041090560 else u
theorem e_real_Clean (u : Int) (N : Nat) : s_real_Clean N u = some (cln u) := by
  simp only [s_real_Clean, s_real_of, Option.bind_some, nan_iff, cln, decide_eq_true_eq, Bool.cond_eq_ite]
  split <;> rfl
def vchk (v : value_Value) : Int :=
  if v.Kind = 1 then (if v.N < -4611686018427387904 ∨ 4611686018427387904 < v.N then 8 else if v.Bits = 0 ∧ v.Text = [] then 0 else 2)
  else if v.Kind = 2 then (if v.N < 0 ∨ 1 < v.N then 8 else if v.Bits = 0 ∧ v.Text = [] then 0 else 2)
  else if v.Kind = 3 then (if cln v.Bits ≠ v.Bits then 4 else if v.N = 0 ∧ v.Text = [] then 0 else 2)
  else if v.Kind = 4 then (if 24 < v.Text.length then 5 else if v.N = 0 ∧ v.Bits = 0 then 0 else 2)
  else 11
theorem e_value_Check (v : value_Value) (N : Nat) : s_value_Check N v = some (vchk v) := by
  have hc := e_real_Clean v.Bits N
  simp only [s_value_Check, s_value_core, vchk, Bool.cond_eq_ite, bothN_eq]
  by_cases k1 : v.Kind = 1
  · simp [k1, s_value_number_whole, ltB_iff]; repeat' split
    all_goals first | rfl | (exfalso; omega) | simp_all [eq_comm]
  · by_cases k2 : v.Kind = 2
    · simp [k2, s_value_flag_whole]; repeat' split
      all_goals first | rfl | (exfalso; omega) | simp_all [eq_comm]
    · by_cases k3 : v.Kind = 3
      · simp [k3, s_value_double_whole, hc]; repeat' split
        all_goals first | rfl | (exfalso; omega) | simp_all [eq_comm]
      · by_cases k4 : v.Kind = 4
        · simp [k4, s_value_words_whole, ltB_iff]; repeat' split
          all_goals first | rfl | (exfalso; omega) | simp_all [eq_comm]
        · simp [k1, k2, k3, k4]
end
section
def nResl : List (List UInt8) := [[119, 105, 116, 104, 105, 110], [98, 121], [97, 110, 100], [111, 114], [110, 111, 116], [97, 110, 121], [110, 101, 120, 116], [115, 116, 114, 105, 99, 116], [116, 114, 117, 101], [102, 97, 108, 115, 101]]
def nResv (s : List UInt8) : Bool := nResl.any (s == ·)
theorem w_nSReserved (s : List UInt8) : W (fun N => s_schema_Reserved N s) (· = nResv s) := by
  refine wall fun N => ?_
  have e2 : ∀ (b r : Bool), (bif b then some true else some r) = some (b || r) := by intro b r; cases b <;> rfl
  unfold s_schema_Reserved
  have e3 : ∀ (b r r' : Bool), (bif b then some (b || r') else some r) = some (b || r) := by intro b r r'; cases b <;> rfl
  have e4 : ∀ (b r : Bool), (bif b then some b else some r) = some (b || r) := by intro b r; cases b <;> rfl
  simp only [nResv, nResl, List.any_cons, List.any_nil, e2, e3, e4, Bool.or_false]
def nLtr (c : UInt8) : Bool := leB 97 (c.toNat : Int) && leB (c.toNat : Int) 122
def nTl (c : UInt8) : Bool := nLtr c || (leB 48 (c.toNat : Int) && leB (c.toNat : Int) 57) || ((c.toNat : Int) == 95)
def nm : List UInt8 → Bool
  | [] => false
  | c :: t => !(ltB 12 ((c :: t).length : Int)) && (nLtr c && (!nResv (c :: t) && t.all nTl))
theorem e_schema_letter (c : UInt8) (N : Nat) : s_schema_letter N (c.toNat : Int) = some (nLtr c) := by
  simp only [s_schema_letter, nLtr]; cases leB 97 (c.toNat : Int) <;> rfl
theorem e_schema_tail (c : UInt8) (N : Nat) : s_schema_tail N (c.toNat : Int) = some (nTl c) := by
  simp only [s_schema_tail, e_schema_letter, Option.bind_some, nTl]
  cases nLtr c <;> cases leB 48 (c.toNat : Int) <;> cases leB (c.toNat : Int) 57 <;> rfl
theorem w_schema_Name (s : List UInt8) : W (fun N => s_schema_Name N s) (· = nm s) := by
  cases s with
  | nil => exact wall fun _ => rfl
  | cons c t =>
    simp only [s_schema_Name, show ((c :: t) == ([] : List UInt8)) = false from rfl, cond_false, W.cond, W.ret, show ix (c :: t) 0 = some c from rfl, Option.bind_some, e_schema_letter]
    refine ⟨fun h => by simp only [nm, h, Bool.not_true, Bool.false_and], fun h => ⟨fun h' => ?_, fun h' => ?_⟩⟩
    · have h' : nLtr c = false := by simpa using h'
      simp only [nm, h', Bool.false_and, Bool.and_false]
    have h' : nLtr c = true := by simpa using h'
    simp only [nm, h, h', Bool.not_false, Bool.true_and]
    refine W.call (w_nSReserved _) ?_
    rintro _ rfl
    simp only [W.cond, W.ret]
    refine ⟨fun h2 => by simp only [h2, Bool.not_true, Bool.false_and], fun h2 => ?_⟩
    simp only [h2, Bool.not_false, Bool.true_and]
    have hb := ltB_not.1 h
    refine wr1 (l := c :: t) (fun _ rest => rest.all nTl) [c] t rfl rfl (by omega) ?_ ?_
    · intro F pre e rest hl h1 h2 h3 hn
      simp only [s_schema_Name_1, h1, h2, h3, Option.bind_some, cond_true, e_schema_tail, W.cond, W.ret, gd_true, List.all_cons]
      refine ⟨fun h => ?_, fun h => ?_⟩
      · have h : nTl e = false := by simpa using h
        simp only [h, Bool.false_and]
      · have h : nTl e = true := by simpa using h
        simp only [h, Bool.true_and]; exact hn
    · intro F h1
      simp only [s_schema_Name_1, h1, cond_false, W.ret, List.all_nil]
end
section
def zT : lex_Token := ⟨0, 0, [], ⟨0, 0, 0, []⟩⟩
/-- The token at a place; one of no kind behind the last. -/
def tk (y : List lex_Token) (i : Nat) : lex_Token := y[i]?.getD zT
end
section
theorem W.shift {α : Type} {f : Nat → Option α} {Q : α → Prop} (h : W (fun N => f (N + 1)) Q) : W f Q := by
  obtain ⟨a, ⟨n, hn⟩, hq⟩ := h
  refine ⟨a, ⟨n + 1, fun N hN => ?_⟩, hq⟩
  obtain ⟨M, rfl⟩ : ∃ M, N = M + 1 := ⟨N - 1, by omega⟩
  exact hn M (by omega)
def bn (k : Int) : pred_Node := ⟨k, 0, [], [], ⟨0, 0, 0, []⟩⟩
end
section
def sgV (v : Int) : List UInt8 := if v = 1 then [61] else if v = 2 then [33, 61] else if v = 3 then [60] else if v = 4 then [60, 61] else if v = 5 then [62] else [62, 61]
end
section
def bad (n : pred_Node) : Bool :=
  bif n.Kind == 4 then !(leB 1 n.Op && leB n.Op 6)
  else bif n.Kind == 7 then !nm n.Name
  else bif n.Kind == 8 then (!nm n.Name) || (!nm n.Var)
  else bif n.Kind == 9 then vchk n.Val != 0
  else false
def nds (n : pred_Node) : Int := bif bad n then 4 else bif moreB n then 2 else 0
theorem sign_nil (v : Int) (N : Nat) : ∃ s, s_compare_Sign N v = some s ∧ (s == []) = !(leB 1 v && leB v 6) := by
  by_cases h : 1 ≤ v ∧ v ≤ 6
  · have h6 : v = 1 ∨ v = 2 ∨ v = 3 ∨ v = 4 ∨ v = 5 ∨ v = 6 := by omega
    rcases h6 with rfl | rfl | rfl | rfl | rfl | rfl <;> exact ⟨_, rfl, rfl⟩
  · refine ⟨[], ?_, ?_⟩
    · have e : ∀ k : Int, 1 ≤ k ∧ k ≤ 6 → (v == k) = false := fun k hk => by
        rw [beq_eq_false_iff_ne]; intro he; subst he; exact h hk
      simp only [s_compare_Sign, e 1 (by omega), e 2 (by omega), e 3 (by omega), e 4 (by omega), e 5 (by omega), e 6 (by omega), cond_false]
    · rw [leB_eq, leB_eq]
      have : ¬ (1 ≤ v ∧ v ≤ 6) := h
      by_cases h1 : 1 ≤ v
      · have : ¬ v ≤ 6 := fun h2 => h ⟨h1, h2⟩
        simp [h1, this]
      · simp [h1]
theorem w_lacks (n : pred_Node) : W (fun N => s_pred_Node_lacks N n) (· = bad n) := by
  obtain ⟨k, op, va, na, v⟩ := n
  simp only [s_pred_Node_lacks, bad]
  by_cases h4 : k = 4
  · subst h4
    have e : ∀ N, ((s_compare_Sign N op).bind fun sign => some (sign == [])) = some (!(leB 1 op && leB op 6)) := fun N => by
      obtain ⟨s, hs, h⟩ := sign_nil op N
      rw [hs, Option.bind_some, h]
    simp only [show ((4 : Int) == 4) = true from rfl, cond_true, e, W.ret]
  simp only [show (k == 4) = false by simpa using h4, cond_false]
  by_cases h7 : k = 7
  · subst h7
    simp only [show ((7 : Int) == 7) = true from rfl, cond_true]
    refine W.call (w_schema_Name na) ?_
    rintro _ rfl
    simp only [W.ret]
  simp only [show (k == 7) = false by simpa using h7, cond_false]
  by_cases h8 : k = 8
  · subst h8
    simp only [show ((8 : Int) == 8) = true from rfl, cond_true]
    refine W.call (w_schema_Name na) ?_
    rintro _ rfl
    cases hn : nm na with
    | false => simp [W.ret]
    | true =>
      simp only [Bool.not_true, cond_false]
      refine W.call (w_schema_Name va) ?_
      rintro _ rfl
      simp [W.ret]
  simp only [show (k == 8) = false by simpa using h8, cond_false]
  by_cases h9 : k = 9
  · subst h9
    simp only [show ((9 : Int) == 9) = true from rfl, cond_true, e_value_Check, Option.bind_some, W.ret]
  simp only [show (k == 9) = false by simpa using h9, cond_false, W.ret]
end
section
def kdN (k : Int) : Int := if k = 1 ∨ k = 2 ∨ k = 4 ∨ k = 5 ∨ k = 6 then 2 else if k = 3 then 1 else 0
def kdW (k : Int) (x : Int) : Int := if k ≤ 3 then 0 else if k = 4 then 1 else if x = 0 then 1 else 2
def stB (k w : Int) : Bool := bif w == 0 then leB 1 k && leB k 4 else bif w == 1 then leB 5 k && leB k 9 else leB 7 k && leB k 9
abbrev TF := Int → Int → Nat → Int × Nat
def kids (p : TF) (k d : Int) (i : Nat) : Int × Nat :=
  if kdN k = 0 then (0, i)
  else if (p (kdW k 0) (d + 1) i).1 ≠ 0 ∨ kdN k = 1 then p (kdW k 0) (d + 1) i
  else p (kdW k 1) (d + 1) (p (kdW k 0) (d + 1) i).2
def trS (l : List pred_Node) (p : TF) : TF := fun w d i =>
  match l[i]? with
  | none => (3, i)
  | some n => if 16 ≤ d then (15, i) else if stB n.Kind w = false then (11, i) else if nds n ≠ 0 then (nds n, i) else kids p n.Kind d (i + 1)
def TR (l : List pred_Node) : Nat → TF
  | 0 => fun _ _ i => (3, i)
  | n + 1 => trS l (TR l n)
theorem e_kids (k : Int) (N : Nat) : s_pred_Kids N k = some (kdN k) := by
  simp only [s_pred_Kids, kdN]
  by_cases h1 : k = 1
  · subst h1; rfl
  by_cases h2 : k = 2
  · subst h2; rfl
  by_cases h4 : k = 4
  · subst h4; rfl
  by_cases h5 : k = 5
  · subst h5; rfl
  by_cases h6 : k = 6
  · subst h6; rfl
  simp only [show (k == 1) = false by simpa using h1, show (k == 2) = false by simpa using h2, show (k == 4) = false by simpa using h4, show (k == 5) = false by simpa using h5, show (k == 6) = false by simpa using h6, cond_false, h1, h2, h4, h5, h6, false_or, if_false]
  by_cases h3 : k = 3
  · subst h3; rfl
  · simp [h3, show (k == 3) = false by simpa using h3]
theorem e_kid (n : pred_Node) (x : Int) (N : Nat) : s_pred_Node_kid N n x = some (kdW n.Kind x) := by
  simp only [s_pred_Node_kid, kdW, leB_eq]
  by_cases h3 : n.Kind ≤ 3
  · simp [h3]
  · by_cases h4 : n.Kind = 4
    · simp [h4]
    · by_cases hx : x = 0
      · simp [h3, h4, hx, show (n.Kind == 4) = false by simpa using h4]
      · simp [h3, h4, hx, show (x == 0) = false by simpa using hx, show (n.Kind == 4) = false by simpa using h4]
theorem e_stands (n : pred_Node) (w : Int) (N : Nat) : s_pred_Node_stands N n w = some (stB n.Kind w) := by
  simp only [s_pred_Node_stands, stB]
  cases w == 0 <;> cases w == 1 <;> cases leB 1 n.Kind <;> cases leB 5 n.Kind <;> cases leB 7 n.Kind <;> simp
theorem kdN_b (k : Int) : 0 ≤ kdN k ∧ kdN k ≤ 2 := by
  unfold kdN
  repeat' split
  all_goals omega
theorem get_ix {l : List pred_Node} {i : Nat} : (leB (l.length : Int) (i : Int) = (l[i]?).isNone) ∧ ∀ n, l[i]? = some n → ix l (i : Int) = some n := by
  refine ⟨?_, fun n h => by rw [ix_nat', h]⟩
  rw [leB_eq, Bool.eq_iff_iff, decide_eq_true_iff, Option.isNone_iff_eq_none, List.getElem?_eq_none_iff]
  omega
theorem p_kids {l : List pred_Node} {p : TF} {n : pred_Node} {d : Int} {i : Nat} (hl : l.length ≤ 30) (hd0 : 0 ≤ d) (hd : d < 16) (hp : ∀ (w : Int) (j : Nat), W (fun N => (SS_pred_checker_tree_v739 N) w (d + 1) l j) (· = ((p w (d + 1) j).1, l, ((p w (d + 1) j).2 : Int)))) :
    W (fun N => lp3 (s_pred_checker_tree_v739_1 N (SS_pred_checker_tree_v739 N) d (kdN n.Kind) n.Kind n.Op n.Var n.Name n.Val.Kind n.Val.N n.Val.Bits n.Val.Text) N 0 l (i : Int)) (· = ((kids p n.Kind d i).1, l, ((kids p n.Kind d i).2 : Int))) := by
  have hb := kdN_b n.Kind
  refine W.lp3 (N := fun N => N) (fun x y j => y = l ∧ ((x = 0 ∧ j = (i : Int)) ∨ (x = 1 ∧ kdN n.Kind ≠ 0 ∧ (p (kdW n.Kind 0) (d + 1) i).1 = 0 ∧ j = ((p (kdW n.Kind 0) (d + 1) i).2 : Int)) ∨
    (x = 2 ∧ kdN n.Kind = 2 ∧ (p (kdW n.Kind 0) (d + 1) i).1 = 0 ∧ (p (kdW n.Kind 1) (d + 1) (p (kdW n.Kind 0) (d + 1) i).2).1 = 0 ∧ j = ((p (kdW n.Kind 1) (d + 1) (p (kdW n.Kind 0) (d + 1) i).2).2 : Int)))) (fun x _ _ => (3 - x).toNat) ⟨rfl, .inl ⟨rfl, rfl⟩⟩ ?_
  rintro F x y j ⟨rfl, h⟩ hn
  simp only [s_pred_checker_tree_v739_1, e_kid, Option.bind_some, W.cond, W.gd, ltB_iff, ltB_not, i64b_eq, W.ret]
  rcases h with ⟨rfl, rfl⟩ | ⟨rfl, h1, h2, rfl⟩ | ⟨rfl, h1, h2, h3, rfl⟩
  · refine ⟨fun hx => ⟨by omega, ?_⟩, fun hx => ?_⟩
    · refine W.bind (hp _ i).lift ?_
      rintro _ rfl
      simp only [W.cond, W.gd, W.ret, i64b_eq]
      refine ⟨fun h0 => ?_, fun h0 => ⟨by omega, hn _ _ _ ⟨rfl, .inr (.inl ⟨rfl, by omega, by simpa using h0, rfl⟩)⟩ (by omega)⟩⟩
      have h0 : (p (kdW n.Kind 0) (d + 1) i).1 ≠ 0 := by simpa using h0
      rw [kids, if_neg (by omega), if_pos (.inl h0)]
    · rw [kids, if_pos (by omega)]
  · refine ⟨fun hx => ⟨by omega, ?_⟩, fun hx => ?_⟩
    · refine W.bind (hp _ _).lift ?_
      rintro _ rfl
      simp only [W.cond, W.gd, W.ret, i64b_eq]
      refine ⟨fun h0 => ?_, fun h0 => ⟨by omega, hn _ _ _ ⟨rfl, .inr (.inr ⟨rfl, by omega, h2, by simpa using h0, rfl⟩)⟩ (by omega)⟩⟩
      rw [kids, if_neg (by omega), if_neg (by intro h; rcases h with h | h <;> omega)]
    · rw [kids, if_neg h1, if_pos (.inr (by omega))]
      rw [h2]
  · refine ⟨fun hx => by omega, fun hx => ?_⟩
    rw [kids, if_neg (by omega), if_neg (by intro h; rcases h with h | h <;> omega), h3]
end
section
def okN (l : List pred_Node) : Prop := ∀ n ∈ l, 0 ≤ n.Val.Bits ∧ n.Val.Bits ≤ 18446744073709551615
theorem nds_eq (n : pred_Node) : nds n = if bad n = true then 4 else if moreB n = true then 2 else 0 := by
  unfold nds
  cases bad n <;> cases moreB n <;> rfl
theorem p_tree {l : List pred_Node} (hl : l.length ≤ 30) : ∀ (n : Nat) (w d : Int) (i : Nat), 0 ≤ d → d ≤ 16 → 16 - d + 1 ≤ n → W (fun N => (SS_pred_checker_tree_v739 N) w d l i) (· = ((TR l n w d i).1, l, ((TR l n w d i).2 : Int)))
  | 0, w, d, i, h0, h1, h2 => by omega
  | n + 1, w, d, i, h0, h1, h2 => by
    refine W.shift ?_
    show W (fun N => b_pred_checker_tree_v739 N (SS_pred_checker_tree_v739 N) w d l i) _
    simp only [b_pred_checker_tree_v739, get_ix.1]
    show W _ (· = ((trS l (TR l n) w d i).1, l, ((trS l (TR l n) w d i).2 : Int)))
    unfold trS
    cases hg : l[i]? with
    | none => simp only [Option.isNone_none, cond_true, W.ret]
    | some nd =>
      have hi : i < 30 := by have := (List.getElem?_eq_some_iff.1 hg).1; omega
      simp only [Option.isNone_some, cond_false, get_ix.2 nd hg, Option.bind_some, leB_eq, e_stands]
      by_cases hd : 16 ≤ d
      · simp only [decide_eq_true hd, cond_true, if_pos hd, W.ret]
      simp only [decide_eq_false hd, cond_false, if_neg hd]
      cases hs : stB nd.Kind w with
      | false => simp only [Bool.not_false, cond_true, W.ret, if_true]
      | true =>
        simp only [Bool.not_true, cond_false, Bool.true_eq_false, if_false, s_pred_is_v782, s_pred_is_v272, s_pred_Node_more]
        refine W.bind (P := (· = if bad nd = true then (4 : Int) else 0)) ?_ ?_
        · refine W.call (w_lacks nd) ?_
          rintro _ rfl
          cases bad nd <;> simp [W.ret]
        rintro _ rfl
        rw [nds_eq]
        cases hb : bad nd with
        | true => simp [W.ret]
        | false =>
          cases hm : moreB nd with
          | true => simp [W.ret, hm]
          | false =>
            simp only [Bool.false_eq_true, if_false, show ((0 : Int) != 0) = false from rfl, cond_false, Option.bind_some, W.gd, i64b_eq, e_kids, ne_eq, not_true_eq_false]
            refine ⟨by omega, ?_⟩
            have := p_kids (l := l) (p := TR l n) (n := nd) (d := d) (i := i + 1) hl h0 (by omega) fun w j => p_tree hl n w (d + 1) j (by omega) (by omega) (by omega)
            simpa using this
def chk (l : List pred_Node) : Int := if 30 < l.length then 5 else if l.length = 0 then 0 else if (TR l 17 0 0 0).1 ≠ 0 then (TR l 17 0 0 0).1 else if (TR l 17 0 0 0).2 < l.length then 5 else 0
theorem w_check (l : List pred_Node) : W (fun N => s_pred_Check N l) (· = chk l) := by
  simp only [s_pred_Check, chk, W.cond, ltB_iff, ltB_not, W.ret]
  refine ⟨fun h => by rw [if_pos (by omega)], fun h => ?_⟩
  rw [if_neg (by omega)]
  refine ⟨fun h2 => by rw [if_pos (by simpa using h2)], fun h2 => ?_⟩
  have h2 : ¬ l.length = 0 := by simpa using h2
  rw [if_neg h2]
  refine W.call (p_tree (l := l) (by omega) 17 0 0 0 (by omega) (by omega) (by omega)) ?_
  rintro _ rfl
  simp only [W.cond, W.ret, ltB_iff, ltB_not]
  refine ⟨fun h3 => by rw [if_pos (by simpa using h3)], fun h3 => ?_⟩
  rw [if_neg (by simpa using h3)]
  exact ⟨fun h4 => by rw [if_pos (by omega)], fun h4 => by rw [if_neg (by omega)]⟩
end
section
def zv : value_Value := ⟨0, 0, 0, []⟩
def isD (c : UInt8) : Bool := leB 48 (c.toNat : Int) && leB (c.toNat : Int) 57
/-- What a digit to the base 16 is worth. -/
def hx (c : UInt8) : Option Nat := if isD c then some (c.toNat - 48) else if leB 97 (c.toNat : Int) && leB (c.toNat : Int) 102 then some (c.toNat - 87) else none
/-! ### Small facts -/
end
section
theorem drop_eq {α : Type} {l : List α} {k : Nat} {e : α} (h : l[k]? = some e) : l.drop k = e :: l.drop (k + 1) := by
  obtain ⟨h1, h2⟩ := List.getElem?_eq_some_iff.1 h
  rw [List.drop_eq_getElem_cons h1, h2]
end
section
inductive TU where
  | own (n : List UInt8)
  | of (v n : List UInt8)
  | lit (v : value_Value)
inductive TS where
  | u (a : TU)
  | op (k : Bool) (s : TS) (a : TU)
inductive TT where
  | or (a b : TT)
  | and (a b : TT)
  | not (a : TT)
  | test (o : Int) (a b : TS)
def TU.nd : TU → pred_Node
  | .own n => ⟨7, 0, [], n, zv⟩
  | .of v n => ⟨8, 0, v, n, zv⟩
  | .lit v => ⟨9, 0, [], [], v⟩
def TS.fl : TS → List pred_Node
  | .u a => [a.nd]
  | .op k s a => bn (if k then 6 else 5) :: (s.fl ++ [a.nd])
def TT.fl : TT → List pred_Node
  | .or a b => bn 2 :: (a.fl ++ b.fl)
  | .and a b => bn 1 :: (a.fl ++ b.fl)
  | .not a => bn 3 :: a.fl
  | .test o a b => ⟨4, o, [], [], zv⟩ :: (a.fl ++ b.fl)
def TU.ok : TU → Prop
  | .own n => nm n = true
  | .of v n => nm v = true ∧ nm n = true
  | .lit v => vchk v = 0 ∧ 0 ≤ v.Bits ∧ v.Bits < 18446744073709551616
def TS.ok : TS → Prop
  | .u a => a.ok
  | .op _ s a => s.ok ∧ a.ok
def TT.ok : TT → Prop
  | .or a b => a.ok ∧ b.ok
  | .and a b => a.ok ∧ b.ok
  | .not a => a.ok
  | .test o a b => 1 ≤ o ∧ o ≤ 6 ∧ a.ok ∧ b.ok
def TT.ht : TT → Nat
  | .or a b => 1 + max a.ht b.ht
  | .and a b => 1 + max a.ht b.ht
  | .not a => 1 + a.ht
  | .test _ _ _ => 1
theorem moreZ_eq {v : value_Value} (h : moreZ v = true) : v = zv := by
  obtain ⟨a, b, c, d⟩ := v
  simp only [moreZ, Bool.and_eq_true, beq_iff_eq] at h
  obtain ⟨rfl, rfl, rfl, rfl⟩ := h; rfl
theorem nds_0 {n : pred_Node} (h : nds n = 0) : bad n = false ∧ moreB n = false := by
  unfold nds at h
  cases h1 : bad n <;> cases h2 : moreB n <;> rw [h1, h2] at h <;> first | exact ⟨rfl, rfl⟩ | cases h
theorem nd_bare {n : pred_Node} (h : nds n = 0) (h4 : n.Kind ≠ 4) (h7 : n.Kind ≠ 7) (h8 : n.Kind ≠ 8) (h9 : n.Kind ≠ 9) : n = bn n.Kind := by
  obtain ⟨k, o, v, nn, w⟩ := n
  have := (nds_0 h).2
  simp only [moreB, show (k == 4) = false by simpa using h4, show (k == 7) = false by simpa using h7, show (k == 8) = false by simpa using h8, show (k == 9) = false by simpa using h9, cond_false, Bool.not_eq_false', Bool.and_eq_true, beq_iff_eq] at this
  obtain ⟨rfl, rfl, rfl, hz⟩ := this
  rw [moreZ_eq hz]; rfl
theorem nd_test {n : pred_Node} (h : nds n = 0) (h4 : n.Kind = 4) : n = ⟨4, n.Op, [], [], zv⟩ ∧ 1 ≤ n.Op ∧ n.Op ≤ 6 := by
  obtain ⟨k, o, v, nn, w⟩ := n
  obtain ⟨h1, h2⟩ := nds_0 h
  simp only at h4; subst h4
  simp only [moreB, bad, show ((4 : Int) == 4) = true from rfl, cond_true, Bool.not_eq_false', Bool.and_eq_true, beq_iff_eq, leB_iff] at h1 h2
  obtain ⟨rfl, rfl, hz⟩ := h2
  rw [moreZ_eq hz]; exact ⟨rfl, h1⟩
theorem nd_unit {n : pred_Node} (h : nds n = 0) (hb : 0 ≤ n.Val.Bits ∧ n.Val.Bits ≤ 18446744073709551615) (hk : n.Kind = 7 ∨ n.Kind = 8 ∨ n.Kind = 9) : ∃ a : TU, a.ok ∧ n = a.nd := by
  obtain ⟨k, o, v, nn, w⟩ := n
  obtain ⟨h1, h2⟩ := nds_0 h
  simp only at hk hb
  rcases hk with rfl | rfl | rfl
  · simp only [moreB, bad, show ((7 : Int) == 4) = false from rfl, show ((7 : Int) == 7) = true from rfl, cond_true, cond_false, Bool.not_eq_false', Bool.and_eq_true, beq_iff_eq] at h1 h2
    obtain ⟨rfl, rfl, hz⟩ := h2
    rw [moreZ_eq hz]
    exact ⟨.own nn, h1, rfl⟩
  · simp only [moreB, bad, show ((8 : Int) == 4) = false from rfl, show ((8 : Int) == 7) = false from rfl, show ((8 : Int) == 8) = true from rfl, cond_true, cond_false, Bool.not_eq_false', Bool.and_eq_true, Bool.or_eq_false_iff, beq_iff_eq] at h1 h2
    obtain ⟨rfl, hz⟩ := h2
    rw [moreZ_eq hz]
    exact ⟨.of v nn, ⟨h1.2, h1.1⟩, rfl⟩
  · simp only [moreB, bad, show ((9 : Int) == 4) = false from rfl, show ((9 : Int) == 7) = false from rfl, show ((9 : Int) == 8) = false from rfl, show ((9 : Int) == 9) = true from rfl, cond_true, cond_false, Bool.not_eq_false', Bool.and_eq_true, beq_iff_eq, bne_eq_false_iff_eq] at h1 h2
    obtain ⟨rfl, rfl, rfl⟩ := h2
    exact ⟨.lit w, ⟨h1, hb.1, by omega⟩, rfl⟩
theorem tr_node {l : List pred_Node} {n : Nat} {w d : Int} {i j : Nat} (h : TR l (n + 1) w d i = (0, j)) : ∃ nd, l[i]? = some nd ∧ d < 16 ∧ stB nd.Kind w = true ∧ nds nd = 0 ∧ kids (TR l n) nd.Kind d (i + 1) = (0, j) := by
  simp only [TR, trS] at h
  cases hl : l[i]? with
  | none => rw [hl] at h; cases h
  | some nd =>
    rw [hl] at h; simp only at h
    by_cases h1 : 16 ≤ d
    · rw [if_pos h1] at h; cases h
    rw [if_neg h1] at h
    by_cases h2 : stB nd.Kind w = false
    · rw [if_pos h2] at h; cases h
    rw [if_neg h2] at h
    by_cases h3 : nds nd ≠ 0
    · rw [if_pos h3] at h; exact absurd (Prod.mk.inj h).1 h3
    rw [if_neg h3] at h
    exact ⟨nd, rfl, by omega, by simpa using h2, by simpa using h3, h⟩
theorem kids2 {p : TF} {k d : Int} {i j : Nat} (hk : kdN k = 2) (h : kids p k d i = (0, j)) : ∃ m, p (kdW k 0) (d + 1) i = (0, m) ∧ p (kdW k 1) (d + 1) m = (0, j) := by
  rw [kids, if_neg (by omega)] at h
  by_cases h0 : (p (kdW k 0) (d + 1) i).1 ≠ 0
  · rw [if_pos (.inl h0)] at h; rw [h] at h0; exact absurd rfl h0
  · rw [if_neg (by intro q; rcases q with q | q <;> omega)] at h
    exact ⟨_, Prod.ext (by simpa using h0) rfl, h⟩
theorem kids1 {p : TF} {k d : Int} {i j : Nat} (hk : kdN k = 1) (h : kids p k d i = (0, j)) : p (kdW k 0) (d + 1) i = (0, j) := by
  rwa [kids, if_neg (by omega), if_pos (.inr hk)] at h
theorem kids0 {p : TF} {k d : Int} {i j : Nat} (hk : kdN k = 0) (h : kids p k d i = (0, j)) : j = i := by
  rw [kids, if_pos hk] at h; cases h; rfl
theorem tr_tree {l : List pred_Node} (ho : okN l) : ∀ (n : Nat) (w d : Int) (i j : Nat), TR l n w d i = (0, j) →
    (w = 2 → ∃ a : TU, a.ok ∧ l.drop i = a.nd :: l.drop j ∧ j = i + 1) ∧
    (w = 1 → ∃ s : TS, s.ok ∧ l.drop i = s.fl ++ l.drop j ∧ j = i + s.fl.length) ∧
    (w = 0 → ∃ t : TT, t.ok ∧ l.drop i = t.fl ++ l.drop j ∧ j = i + t.fl.length ∧ d + t.ht ≤ 16)
  | 0, w, d, i, j, h => by simp only [TR] at h; cases h
  | n + 1, w, d, i, j, h => by
    obtain ⟨nd, hi, hd, hst, hn, hk⟩ := tr_node h
    have hdr := drop_eq hi
    have hb := ho nd (List.mem_of_getElem? hi)
    have unit : (nd.Kind = 7 ∨ nd.Kind = 8 ∨ nd.Kind = 9) → ∃ a : TU, a.ok ∧ l.drop i = a.nd :: l.drop j ∧ j = i + 1 := fun h3 => by
      obtain ⟨a, h4, h5⟩ := nd_unit hn hb h3
      obtain rfl := kids0 (by rcases h3 with h3 | h3 | h3 <;> rw [h3] <;> rfl) hk
      exact ⟨a, h4, by rw [hdr, h5], rfl⟩
    refine ⟨?_, ?_, ?_⟩
    · rintro rfl
      simp only [stB, show ((2 : Int) == 0) = false from rfl, show ((2 : Int) == 1) = false from rfl, cond_false, Bool.and_eq_true, leB_iff] at hst
      exact unit (by omega)
    · rintro rfl
      simp only [stB, show ((1 : Int) == 0) = false from rfl, show ((1 : Int) == 1) = true from rfl, cond_true, cond_false, Bool.and_eq_true, leB_iff] at hst
      by_cases h7 : 7 ≤ nd.Kind
      · obtain ⟨a, h4, h5, h6⟩ := unit (by omega)
        exact ⟨.u a, h4, h5, h6⟩
      · have key : ∀ b : Bool, nd.Kind = (if b then 6 else 5) → ∃ s : TS, s.ok ∧ l.drop i = s.fl ++ l.drop j ∧ j = i + s.fl.length := fun b hbk => by
          have h56 : nd.Kind = 5 ∨ nd.Kind = 6 := by cases b <;> simp at hbk <;> omega
          obtain ⟨m, k1, k2⟩ := kids2 (by rcases h56 with h | h <;> rw [h] <;> rfl) hk
          have e0 : kdW nd.Kind 0 = 1 := by rcases h56 with h | h <;> rw [h] <;> rfl
          have e1 : kdW nd.Kind 1 = 2 := by rcases h56 with h | h <;> rw [h] <;> rfl
          rw [e0] at k1; rw [e1] at k2
          obtain ⟨s, s1, s2, s3⟩ := (tr_tree ho n 1 (d + 1) (i + 1) m k1).2.1 rfl
          obtain ⟨a, a1, a2, a3⟩ := (tr_tree ho n 2 (d + 1) m j k2).1 rfl
          refine ⟨.op b s a, ⟨s1, a1⟩, ?_, ?_⟩
          · rw [hdr, s2, a2, nd_bare hn (by omega) (by omega) (by omega) (by omega), hbk]
            simp [TS.fl]
          · simp only [TS.fl, List.length_cons, List.length_append, List.length_nil]; omega
        by_cases h6 : nd.Kind = 6
        · exact key true h6
        · exact key false (by simp only [Bool.false_eq_true, if_false]; omega)
    · rintro rfl
      simp only [stB, show ((0 : Int) == 0) = true from rfl, cond_true, Bool.and_eq_true, leB_iff] at hst
      have two : (nd.Kind = 1 ∨ nd.Kind = 2) → ∃ a b : TT, a.ok ∧ b.ok ∧ l.drop i = bn nd.Kind :: (a.fl ++ b.fl) ++ l.drop j ∧ j = i + (1 + a.fl.length + b.fl.length) ∧ d + (1 + max a.ht b.ht : Nat) ≤ 16 := fun h12 => by
        obtain ⟨m, k1, k2⟩ := kids2 (by rcases h12 with h | h <;> rw [h] <;> rfl) hk
        have e0 : kdW nd.Kind 0 = 0 := by rcases h12 with h | h <;> rw [h] <;> rfl
        have e1 : kdW nd.Kind 1 = 0 := by rcases h12 with h | h <;> rw [h] <;> rfl
        rw [e0] at k1; rw [e1] at k2
        obtain ⟨a, a1, a2, a3, a4⟩ := (tr_tree ho n 0 (d + 1) (i + 1) m k1).2.2 rfl
        obtain ⟨b, b1, b2, b3, b4⟩ := (tr_tree ho n 0 (d + 1) m j k2).2.2 rfl
        refine ⟨a, b, a1, b1, ?_, by omega, by omega⟩
        rw [hdr, a2, b2]
        conv => lhs; rw [nd_bare hn (by omega) (by omega) (by omega) (by omega)]
        simp
      by_cases h1 : nd.Kind = 1
      · obtain ⟨a, b, q1, q2, q3, q4, q5⟩ := two (.inl h1)
        rw [h1] at q3
        exact ⟨.and a b, ⟨q1, q2⟩, q3, by simp only [TT.fl, List.length_cons, List.length_append]; omega, q5⟩
      by_cases h2 : nd.Kind = 2
      · obtain ⟨a, b, q1, q2, q3, q4, q5⟩ := two (.inr h2)
        rw [h2] at q3
        exact ⟨.or a b, ⟨q1, q2⟩, q3, by simp only [TT.fl, List.length_cons, List.length_append]; omega, q5⟩
      by_cases h3 : nd.Kind = 3
      · have k1 := kids1 (by rw [h3]; rfl) hk
        rw [show kdW nd.Kind 0 = 0 by rw [h3]; rfl] at k1
        obtain ⟨a, a1, a2, a3, a4⟩ := (tr_tree ho n 0 (d + 1) (i + 1) j k1).2.2 rfl
        refine ⟨.not a, a1, ?_, by simp only [TT.fl, List.length_cons]; omega, by simp only [TT.ht]; omega⟩
        rw [hdr, a2, nd_bare hn (by omega) (by omega) (by omega) (by omega), h3]; rfl
      · have h4 : nd.Kind = 4 := by omega
        obtain ⟨m, k1, k2⟩ := kids2 (by rw [h4]; rfl) hk
        rw [show kdW nd.Kind 0 = 1 by rw [h4]; rfl] at k1
        rw [show kdW nd.Kind 1 = 1 by rw [h4]; rfl] at k2
        obtain ⟨a, a1, a2, a3⟩ := (tr_tree ho n 1 (d + 1) (i + 1) m k1).2.1 rfl
        obtain ⟨b, b1, b2, b3⟩ := (tr_tree ho n 1 (d + 1) m j k2).2.1 rfl
        obtain ⟨g1, g2, g3⟩ := nd_test hn h4
        refine ⟨.test nd.Op a b, ⟨g2, g3, a1, b1⟩, ?_, by simp only [TT.fl, List.length_cons, List.length_append]; omega, by simp only [TT.ht]; omega⟩
        rw [hdr, a2, b2]
        conv => lhs; rw [g1]
        simp [TT.fl]
theorem chk_tree {l : List pred_Node} (ho : okN l) (h : chk l = 0) (hl : l ≠ []) : ∃ t : TT, t.ok ∧ l = t.fl ∧ t.ht ≤ 16 ∧ l.length ≤ 30 := by
  have h0 : ¬ l.length = 0 := fun h => hl (List.eq_nil_of_length_eq_zero h)
  unfold chk at h
  by_cases h1 : 30 < l.length
  · rw [if_pos h1] at h; cases h
  rw [if_neg h1, if_neg h0] at h
  by_cases h2 : (TR l 17 0 0 0).1 ≠ 0
  · rw [if_pos h2] at h; exact absurd h h2
  rw [if_neg h2] at h
  by_cases h3 : (TR l 17 0 0 0).2 < l.length
  · rw [if_pos h3] at h; cases h
  obtain ⟨t, t1, t2, t3, t4⟩ := (tr_tree ho 17 0 0 0 (TR l 17 0 0 0).2 (Prod.ext (by simpa using h2) rfl)).2.2 rfl
  refine ⟨t, t1, ?_, by omega, by omega⟩
  rw [List.drop_eq_nil_of_le (by omega : l.length ≤ (TR l 17 0 0 0).2), List.append_nil, List.drop_zero] at t2
  exact t2
end
section
/-- A token without its place. -/
abbrev Tk := Int × List UInt8 × value_Value
def ke (t : lex_Token) : Tk := (t.Kind, t.Text, t.Val)
def sg (s : List UInt8) : Tk := (4, s, zv)
def kw (s : List UInt8) : Tk := (2, s, zv)
def M (y : List lex_Token) : Nat → List Tk → Prop
  | _, [] => True
  | i, t :: ts => ke (tk y i) = t ∧ M y (i + 1) ts
def TU.tk : TU → List Tk
  | .own n => [(1, n, zv)]
  | .of v n => [(1, v, zv), sg [46], (1, n, zv)]
  | .lit v => if v.Kind = 1 ∧ v.N < 0 then [sg [45], (3, [], ⟨1, -v.N, 0, []⟩)] else [(3, [], v)]
def TS.tk : TS → List Tk
  | .u a => a.tk
  | .op k s a => s.tk ++ sg (if k then [45] else [43]) :: a.tk
def TT.bd : TT → Nat
  | .or _ _ => 1
  | .and _ _ => 2
  | _ => 3
def brk (c : Bool) (l : List Tk) : List Tk := if c then sg [40] :: (l ++ [sg [41]]) else l
def TT.tk : TT → List Tk
  | .or a b => brk (decide (a.bd < 1)) a.tk ++ kw [111, 114] :: brk (decide (b.bd < 2)) b.tk
  | .and a b => brk (decide (a.bd < 2)) a.tk ++ kw [97, 110, 100] :: brk (decide (b.bd < 3)) b.tk
  | .not a => kw [110, 111, 116] :: brk (decide (a.bd < 3)) a.tk
  | .test o a b => a.tk ++ sg (sgV o) :: b.tk
end
section
inductive GT where
  | leaf (neg : Bool) (v t : List UInt8) (o : Option TT)
  | rep (lo hi : Int) (a : GT)
  | lst (alt : Bool) (bs : List GT)
def kA (alt : Bool) : Int := if alt then 2 else 1
def kL (neg : Bool) : Int := if neg then 5 else 4
def oT : Option TT → List pred_Node
  | none => []
  | some t => t.fl
def oK : Option TT → Prop
  | none => True
  | some t => t.ok ∧ t.ht ≤ 16 ∧ t.fl.length ≤ 30 ∧ chk t.fl = 0
theorem oT_of {l : List pred_Node} (ho : okN l) (h : chk l = 0) : ∃ o, oK o ∧ l = oT o := by
  by_cases hl : l = []
  · exact ⟨none, trivial, hl⟩
  · obtain ⟨t, h1, h2, h3, h4⟩ := chk_tree ho h hl
    exact ⟨some t, ⟨h1, h3, h2 ▸ h4, h2 ▸ h⟩, h2⟩
mutual
def GT.fl : GT → List shape_Node
  | .leaf neg v t o => [⟨kL neg, 0, 0, 0, v, t, oT o⟩]
  | .rep lo hi a => ⟨3, 1, lo, hi, [], [], []⟩ :: GT.fl a
  | .lst alt bs => ⟨kA alt, (bs.length : Int), 0, 0, [], [], []⟩ :: GT.fls bs
def GT.fls : List GT → List shape_Node
  | [] => []
  | a :: r => GT.fl a ++ GT.fls r
end
mutual
def GT.ok : GT → Int → Prop
  | .leaf neg v t o, w => (neg = true → w ≠ 3) ∧ nm v = true ∧ nm t = true ∧ oK o
  | .rep lo hi a, w => (0 ≤ lo ∧ lo ≤ 8 ∧ 0 ≤ hi ∧ hi ≤ 8 ∧ ¬ (lo = 1 ∧ hi = 1) ∧ (hi = 0 ∨ lo ≤ hi)) ∧ GT.ok a 3
  | .lst alt bs, w => kA alt ≠ w ∧ 2 ≤ bs.length ∧ bs.length ≤ 40 ∧ GT.oks bs (kA alt)
def GT.oks : List GT → Int → Prop
  | [], _ => True
  | a :: r, w => GT.ok a w ∧ GT.oks r w
end
mutual
def GT.dp : GT → Nat
  | .leaf .. => 1
  | .rep _ _ a => GT.dp a + 1
  | .lst _ bs => GT.dps bs + 1
def GT.dps : List GT → Nat
  | [] => 0
  | a :: r => max (GT.dp a) (GT.dps r)
end
theorem fls_app : ∀ (a b : List GT), GT.fls (a ++ b) = GT.fls a ++ GT.fls b
  | [], b => rfl
  | x :: a, b => by simp only [List.cons_append, GT.fls, fls_app a b, List.append_assoc]
section
variable (n : shape_Node)
def isLs : Bool := n.Kind == 1 || n.Kind == 2
theorem e_ls (N : Nat) : s_shape_Node_list N n = some (isLs n) := by
  simp only [s_shape_Node_list, isLs]; cases n.Kind == 1 <;> rfl
def stG (w : Int) : Bool := !(ltB n.Kind 1) && (!(ltB 5 n.Kind) && (if isLs n = true then n.Kind != w else (n.Kind != 5 || w != 3)))
theorem e_stG (w : Int) (N : Nat) : s_shape_Node_stands N n w = some (stG n w) := by
  simp only [s_shape_Node_stands, e_ls, Option.bind_some, stG]
  cases ltB n.Kind 1 <;> cases ltB 5 n.Kind <;> cases isLs n <;> simp
  cases h : (n.Kind != 5) <;> simp_all
def ofG : Bool := !(ltB n.Lo 0) && (!(ltB 8 n.Lo) && (!(ltB n.Hi 0) && (!(ltB 8 n.Hi) && (!((n.Lo == 1) && (n.Hi == 1)) && ((n.Hi == 0) || leB n.Lo n.Hi)))))
theorem e_ofG (N : Nat) : s_shape_Node_often N n = some (ofG n) := by
  simp only [s_shape_Node_often, ofG]
  cases ltB n.Lo 0 <;> cases ltB 8 n.Lo <;> cases ltB n.Hi 0 <;> cases ltB 8 n.Hi <;> cases n.Lo == 1 <;> cases n.Hi == 1 <;> cases n.Hi == 0 <;> rfl
def lkG : Bool := if isLs n = true then (ltB n.Kids 2 || ltB 40 n.Kids) else if n.Kind = 3 then (n.Kids != 1 || !ofG n) else (!nm n.Var || (!nm n.Type_ || chk n.Test != 0))
theorem w_lkG : W (fun N => s_shape_Node_lacks N n) (· = lkG n) := by
  simp only [s_shape_Node_lacks, e_ls, Option.bind_some, e_ofG, lkG]
  cases h : isLs n
  · simp only [cond_false, Bool.false_eq_true, if_false]
    by_cases h3 : n.Kind = 3
    · simp only [h3, beq_self_eq_true, cond_true, if_true]
      cases n.Kids != 1 <;> simp [W.ret]
    · simp only [show (n.Kind == 3) = false by simpa using h3, cond_false, if_neg h3]
      refine W.call (w_schema_Name _) ?_
      rintro _ rfl
      cases nm n.Var
      · simp [W.ret]
      · simp only [Bool.not_true, cond_false, Bool.false_or]
        refine W.call (w_schema_Name _) ?_
        rintro _ rfl
        cases nm n.Type_
        · simp [W.ret]
        · simp only [Bool.not_true, cond_false, Bool.false_or]
          refine W.call (w_check _) ?_
          rintro _ rfl
          simp only [W.ret]
  · simp only [cond_true, if_true]
    cases ltB n.Kids 2 <;> simp [W.ret]
def lfG : Bool := n.Kind == 4 || n.Kind == 5
theorem e_lf (N : Nat) : s_shape_Node_leaf N n = some (lfG n) := by
  simp only [s_shape_Node_leaf, lfG]; cases n.Kind == 4 <;> rfl
def moG : Bool := if lfG n = true then (n.Lo != 0 || n.Hi != 0 || n.Kids != 0) else ((!(n.Var == []) || !(n.Type_ == []) || ltB 0 (n.Test.length : Int)) || (n.Lo != 0 || n.Hi != 0) && n.Kind != 3)
theorem e_moG (N : Nat) : s_shape_Node_more N n = some (moG n) := by
  simp only [s_shape_Node_more, e_lf, Option.bind_some, moG]
  cases n.Lo != 0 <;> cases n.Hi != 0 <;> cases n.Var == [] <;> cases n.Type_ == [] <;> cases lfG n <;> cases ltB 0 (n.Test.length : Int) <;> rfl
def kdG : Int := if isLs n = true then max 0 (min n.Kids 40) else if n.Kind = 3 then 1 else 0
theorem e_kdG (N : Nat) : s_shape_Node_kids N n = some (kdG n) := by
  simp only [s_shape_Node_kids, e_ls, Option.bind_some, kdG]
  cases isLs n
  · by_cases h : n.Kind = 3
    · simp [h]
    · simp [h, show (n.Kind == 3) = false by simpa using h]
  · simp
end
/-- What a node is that may stand. -/
theorem node_ok {n : shape_Node} {w : Int} (h1 : stG n w = true) (h2 : lkG n = false) (h3 : moG n = false) :
    (∃ neg v t l, n = ⟨kL neg, 0, 0, 0, v, t, l⟩ ∧ (neg = true → w ≠ 3) ∧ nm v = true ∧ nm t = true ∧ chk l = 0 ∧ kdG n = 0) ∨
    (∃ lo hi, n = ⟨3, 1, lo, hi, [], [], []⟩ ∧ (0 ≤ lo ∧ lo ≤ 8 ∧ 0 ≤ hi ∧ hi ≤ 8 ∧ ¬ (lo = 1 ∧ hi = 1) ∧ (hi = 0 ∨ lo ≤ hi)) ∧ kdG n = 1) ∨
    (∃ alt k, n = ⟨kA alt, k, 0, 0, [], [], []⟩ ∧ kA alt ≠ w ∧ 2 ≤ k ∧ k ≤ 40 ∧ kdG n = k) := by
  obtain ⟨K, k, lo, hi, v, t, l⟩ := n
  simp only [stG, Bool.and_eq_true, Bool.not_eq_true', ltB_eq, decide_eq_false_iff_not] at h1
  obtain ⟨a1, a2, a3⟩ := h1
  have hK : K = 1 ∨ K = 2 ∨ K = 3 ∨ K = 4 ∨ K = 5 := by omega
  rcases hK with rfl | rfl | rfl | rfl | rfl
  · refine .inr (.inr ⟨false, k, ?_⟩)
    simp [isLs, lkG, moG, lfG, kA, kdG, ltB_eq] at a3 h2 h3 ⊢
    obtain ⟨⟨⟨h5, h6⟩, h7⟩, h8, h9⟩ := h3
    exact ⟨⟨h8, h9, h5, h6, h7⟩, a3, h2.1, h2.2, by omega⟩
  · refine .inr (.inr ⟨true, k, ?_⟩)
    simp [isLs, lkG, moG, lfG, kA, kdG, ltB_eq] at a3 h2 h3 ⊢
    obtain ⟨⟨⟨h5, h6⟩, h7⟩, h8, h9⟩ := h3
    exact ⟨⟨h8, h9, h5, h6, h7⟩, a3, h2.1, h2.2, by omega⟩
  · refine .inr (.inl ⟨lo, hi, ?_⟩)
    simp [isLs, lkG, moG, lfG, kA, kdG, ltB_eq, leB_eq, ofG] at a3 h2 h3 ⊢
    obtain ⟨⟨h5, h6⟩, h7⟩ := h3
    obtain ⟨q0, q1, q2, q3, q4, q5, q6⟩ := h2
    exact ⟨⟨q0, h5, h6, h7⟩, q1, q2, q3, q4, q5, by omega⟩
  · refine .inl ⟨false, v, t, l, ?_⟩
    simp [isLs, lkG, moG, lfG, kL, kdG] at a3 h2 h3 ⊢
    exact ⟨⟨h3.2, h3.1.1, h3.1.2⟩, h2⟩
  · refine .inl ⟨true, v, t, l, ?_⟩
    simp [isLs, lkG, moG, lfG, kL, kdG] at a3 h2 h3 ⊢
    exact ⟨⟨h3.2, h3.1.1, h3.1.2⟩, a3, h2⟩
/-- The check of a tree, and of so many of them. -/
abbrev TGF := List shape_Node → Int → Int → List shape_Node × Int
def kidsG (f : List shape_Node → List shape_Node × Int) : Nat → List shape_Node → List shape_Node × Int
  | 0, r => (r, 0)
  | k + 1, r => if (f r).2 = 0 then kidsG f k (f r).1 else ([], (f r).2)
def TG : Nat → TGF
  | 0 => fun _ _ _ => ([], 15)
  | n + 1 => fun l w d => match l with
    | [] => ([], 3)
    | e :: r => if 16 ≤ d then ([], 15) else if stG e w = false then ([], 11) else if lkG e = true then ([], 4) else if moG e = true then ([], 2) else kidsG (fun r => TG n r e.Kind (d + 1)) (kdG e).toNat r
theorem kdG_le (e : shape_Node) : 0 ≤ kdG e ∧ kdG e ≤ 40 := by
  unfold kdG
  split
  · omega
  · split <;> omega
theorem w_treeG : ∀ (n : Nat) (l : List shape_Node) (w d : Int), 0 ≤ d → d ≤ 16 → 17 - d ≤ n → W (fun N => (SS_shape_tree N) l w d) (· = TG n l w d)
  | 0, l, w, d, h1, h2, h3 => by omega
  | n + 1, l, w, d, h1, h2, h3 => by
    refine W.shift ?_
    show W (fun N => b_shape_tree N (SS_shape_tree N) l w d) _
    cases l with
    | nil => exact wall fun _ => rfl
    | cons e r =>
      have e0 : ix (e :: r) 0 = some e := rfl
      have el : ((List.length (e :: r) : Int) == 0) = false := by simp only [List.length_cons]; simpa using (by omega : ¬ ((r.length : Int) + 1 = 0))
      have eg : leB 1 (List.length (e :: r) : Int) = true := leB_iff.2 (by simp only [List.length_cons]; omega)
      simp only [b_shape_tree, el, cond_false, e0, Option.bind_some, e_stG, e_moG, e_kdG, eg, gd_true, TG]
      by_cases hd : 16 ≤ d
      · simp only [show leB 16 d = true from leB_iff.2 hd, cond_true, if_pos hd, W.ret]
      have hd' : leB 16 d = false := by rw [leB_eq]; simpa using hd
      simp only [hd', cond_false, if_neg hd]
      cases hs : stG e w
      · simp [W.ret]
      simp only [Bool.not_true, cond_false, Bool.true_eq_false, if_false]
      refine W.call (w_lkG e) ?_
      rintro _ rfl
      cases hk : lkG e
      rotate_left
      · simp [W.ret]
      simp only [cond_false, Bool.false_eq_true, if_false]
      cases hm : moG e
      rotate_left
      · simp [W.ret]
      simp only [cond_false, Bool.false_eq_true, if_false]
      obtain ⟨k0, k1⟩ := kdG_le e
      refine W.lp2 (P := fun rest x => 0 ≤ x ∧ x ≤ kdG e ∧ kidsG (fun r => TG n r e.Kind (d + 1)) (kdG e - x).toNat rest = kidsG (fun r => TG n r e.Kind (d + 1)) (kdG e).toNat r) (m := fun _ x => (kdG e - x).toNat) ⟨by omega, by omega, by simp⟩ ?_
      rintro F rest x ⟨x0, x1, x2⟩ hn
      simp only [s_shape_tree_1]
      by_cases hx : x < kdG e
      · obtain ⟨m, hm⟩ : ∃ m, (kdG e - x).toNat = m + 1 := ⟨(kdG e - x).toNat - 1, by omega⟩
        simp only [show ltB x (kdG e) = true from ltB_iff.2 hx, cond_true, W.gd, i64b_eq]
        refine ⟨by omega, W.bind (W.lift (w_treeG n rest e.Kind (d + 1) (by omega) (by omega) (by omega))) ?_⟩
        rintro _ rfl
        rw [hm, kidsG] at x2
        by_cases hc : (TG n rest e.Kind (d + 1)).2 = 0
        · rw [if_pos hc] at x2
          simp only [show ((TG n rest e.Kind (d + 1)).2 != 0) = false by simpa using hc, cond_false, W.gd, i64b_eq]
          refine ⟨by omega, hn _ _ ⟨by omega, by omega, ?_⟩ (by omega)⟩
          rw [show (kdG e - (x + 1)).toNat = m by omega]
          exact x2
        · rw [if_neg hc] at x2
          simp only [show ((TG n rest e.Kind (d + 1)).2 != 0) = true by simpa using hc, cond_true, W.ret]
          exact x2
      · obtain rfl : x = kdG e := by omega
        have : ltB (kdG e) (kdG e) = false := by rw [ltB_eq]; simp
        simp only [this, cond_false, W.ret]
        rw [Int.sub_self] at x2
        exact x2
def wdS (m : Int) : List UInt8 := if m = 1 then [97, 110, 121] else if m = 2 then [110, 101, 120, 116] else if m = 3 then [115, 116, 114, 105, 99, 116] else []
theorem e_wd (m : Int) (N : Nat) : s_shape_Word N m = some (wdS m) := by
  simp only [s_shape_Word, wdS]
  by_cases h1 : m = 1
  · subst h1; rfl
  by_cases h2 : m = 2
  · subst h2; rfl
  by_cases h3 : m = 3
  · subst h3; rfl
  simp [h1, h2, h3, show (m == 1) = false by simpa using h1, show (m == 2) = false by simpa using h2, show (m == 3) = false by simpa using h3]
def chkG (p : shape_Pattern) : Int :=
  if 40 < p.Body.length then 5 else if (TG 17 p.Body 0 0).2 ≠ 0 then (TG 17 p.Body 0 0).2 else if 0 < (TG 17 p.Body 0 0).1.length then 5
  else if p.Within < 1 then 8 else if 1073741824 < p.Within then 8 else if p.By ≠ [] ∧ nm p.By = false then 4 else if wdS p.Mode = [] then 11 else 0
theorem w_shCheck (p : shape_Pattern) : W (fun N => s_shape_Check N p) (· = chkG p) := by
  simp only [s_shape_Check, e_wd, Option.bind_some]
  unfold chkG
  by_cases h0 : 40 < p.Body.length
  · simp only [show ltB 40 (p.Body.length : Int) = true from ltB_iff.2 (by omega), cond_true, if_pos h0, W.ret]
  have g0 : ltB 40 (p.Body.length : Int) = false := by rw [ltB_eq]; exact decide_eq_false (by omega)
  simp only [g0, cond_false, if_neg h0, s_shape_tree]
  refine W.call (w_treeG 17 p.Body 0 0 (by omega) (by omega) (by omega)) ?_
  rintro _ rfl
  generalize TG 17 p.Body 0 0 = q
  by_cases h1 : q.2 = 0
  rotate_left
  · simp only [show (q.2 != 0) = true by simpa using h1, cond_true, if_pos h1, W.ret]
  simp only [show (q.2 != 0) = false by simpa using h1, cond_false, if_neg (show ¬ q.2 ≠ 0 from fun h => h h1)]
  by_cases h2 : 0 < q.1.length
  · simp only [show ltB 0 (q.1.length : Int) = true from ltB_iff.2 (by omega), cond_true, if_pos h2, W.ret]
  have g2 : ltB 0 (q.1.length : Int) = false := by rw [ltB_eq]; exact decide_eq_false (by omega)
  simp only [g2, cond_false, if_neg h2]
  by_cases h3 : p.Within < 1
  · simp only [show ltB p.Within 1 = true from ltB_iff.2 h3, cond_true, if_pos h3, W.ret]
  have g3 : ltB p.Within 1 = false := by rw [ltB_eq]; exact decide_eq_false h3
  simp only [g3, cond_false, if_neg h3]
  by_cases h4 : 1073741824 < p.Within
  · simp only [show ltB 1073741824 p.Within = true from ltB_iff.2 h4, cond_true, if_pos h4, W.ret]
  have g4 : ltB 1073741824 p.Within = false := by rw [ltB_eq]; exact decide_eq_false h4
  simp only [g4, cond_false, if_neg h4]
  by_cases h5 : p.By = []
  · simp only [h5, show (!(([] : List UInt8) == [])) = false from rfl, cond_false, if_neg (show ¬ (([] : List UInt8) ≠ [] ∧ _) from fun h => h.1 rfl)]
    by_cases h6 : wdS p.Mode = []
    · simp [h6, W.ret]
    · simp [h6, W.ret, show (wdS p.Mode == []) = false by simpa using h6]
  · simp only [show (!(p.By == [])) = true by simpa using h5, cond_true]
    refine W.call (w_schema_Name _) ?_
    rintro _ rfl
    cases h6 : nm p.By
    · simp [h5, W.ret]
    · simp only [Bool.not_true, cond_false]
      by_cases h7 : wdS p.Mode = []
      · simp [h7, W.ret]
      · simp [h7, W.ret, show (wdS p.Mode == []) = false by simpa using h7]
/-- A body that may be is that of a tree. -/
theorem kids_sound {w : Int} {f : List shape_Node → List shape_Node × Int} {D : Nat} (hf : ∀ l r, (∀ n ∈ l, okN n.Test) → f l = (r, 0) → ∃ t : GT, t.ok w ∧ t.dp ≤ D ∧ l = t.fl ++ r) : ∀ (k : Nat) (l r : List shape_Node), (∀ n ∈ l, okN n.Test) → kidsG f k l = (r, 0) → ∃ bs : List GT, bs.length = k ∧ GT.oks bs w ∧ GT.dps bs ≤ D ∧ l = GT.fls bs ++ r
  | 0, l, r, _, h => by cases h; exact ⟨[], rfl, trivial, Nat.zero_le _, rfl⟩
  | k + 1, l, r, hb, h => by
    rw [kidsG] at h
    split at h
    · rename_i hc
      obtain ⟨t, q1, q2, q3⟩ := hf l (f l).1 hb (by rw [← hc])
      obtain ⟨bs, p1, p2, p3, p4⟩ := kids_sound hf k _ _ (fun n hn => hb n (by rw [q3]; exact List.mem_append_right _ hn)) h
      exact ⟨t :: bs, by simp [p1], ⟨q1, p2⟩, by simp only [GT.dps]; omega, by rw [GT.fls, List.append_assoc, ← p4, ← q3]⟩
    · rename_i hc
      exact absurd (Prod.mk.inj h).2 hc
theorem tg_sound : ∀ (n : Nat) (l r : List shape_Node) (w : Int) (d : Nat), (∀ n ∈ l, okN n.Test) → TG n l w d = (r, 0) → ∃ t : GT, t.ok w ∧ t.dp + d ≤ 16 ∧ l = t.fl ++ r
  | 0, l, r, w, d, _, h => by cases h
  | n + 1, [], r, w, d, _, h => by cases h
  | n + 1, e :: l, r, w, d, hb, h => by
    simp only [TG] at h
    split at h
    · cases h
    rename_i hd
    split at h
    · cases h
    rename_i hs
    split at h
    · cases h
    rename_i hk
    split at h
    · cases h
    rename_i hm
    have ih : ∀ l r, (∀ n ∈ l, okN n.Test) → TG n l e.Kind ((d : Int) + 1) = (r, 0) → ∃ t : GT, t.ok e.Kind ∧ t.dp ≤ 15 - d ∧ l = t.fl ++ r := fun l r hb hh => by
      obtain ⟨t, q1, q2, q3⟩ := tg_sound n l r e.Kind (d + 1) hb (by rw [← hh]; congr 1)
      exact ⟨t, q1, by omega, q3⟩
    obtain ⟨bs, p1, p2, p3, p4⟩ := kids_sound ih _ _ _ (fun n hn => hb n (List.mem_cons_of_mem _ hn)) h
    rcases node_ok (by simpa using hs) (by simpa using hk) (by simpa using hm) with ⟨neg, v, t, l', rfl, g1, g2, g3, g4, g5⟩ | ⟨lo, hi, rfl, g1, g2⟩ | ⟨alt, k, rfl, g1, g2, g3, g4⟩
    · rw [g5] at p1
      obtain rfl : bs = [] := List.length_eq_zero_iff.1 p1
      obtain ⟨o, k1, rfl⟩ := oT_of (hb _ (List.mem_cons_self ..)) g4
      exact ⟨.leaf neg v t o, ⟨g1, g2, g3, k1⟩, by simp only [GT.dp]; omega, by rw [p4]; rfl⟩
    · rw [g2] at p1
      obtain ⟨a, rfl⟩ : ∃ a, bs = [a] := List.length_eq_one_iff.1 p1
      exact ⟨.rep lo hi a, ⟨g1, p2.1⟩, by simp only [GT.dp, GT.dps] at p3 ⊢; omega, by rw [p4]; simp [GT.fl, GT.fls]⟩
    · rw [g4] at p1
      have hb : (bs.length : Int) = k := by omega
      exact ⟨.lst alt bs, ⟨g1, by omega, by omega, p2⟩, by simp only [GT.dp]; omega, by rw [p4, ← hb]; rfl⟩
theorem chkG_tree {p : shape_Pattern} (hb : ∀ n ∈ p.Body, okN n.Test) (h : chkG p = 0) : p.Body.length ≤ 40 ∧ 1 ≤ p.Within ∧ p.Within ≤ 1073741824 ∧ (p.By = [] ∨ nm p.By = true) ∧ (p.Mode = 1 ∨ p.Mode = 2 ∨ p.Mode = 3) ∧ ∃ t : GT, t.ok 0 ∧ t.dp ≤ 16 ∧ p.Body = t.fl := by
  unfold chkG at h
  split at h
  · cases h
  split at h
  · rename_i q; exact absurd h q
  split at h
  · cases h
  split at h
  · cases h
  split at h
  · cases h
  split at h
  · cases h
  split at h
  · cases h
  rename_i h1 h2 h3 h4 h5 h6 h7
  have hr : (TG 17 p.Body 0 0).1 = [] := List.length_eq_zero_iff.1 (by omega)
  obtain ⟨t, q1, q2, q3⟩ := tg_sound 17 p.Body [] 0 0 hb (Prod.ext hr (by simpa using h2))
  refine ⟨by omega, by omega, by omega, ?_, ?_, t, q1, q2, by simpa using q3⟩
  · by_cases hb : p.By = []
    · exact .inl hb
    · exact .inr (by simpa [hb] using h6)
  · unfold wdS at h7
    by_cases a1 : p.Mode = 1
    · exact .inl a1
    by_cases a2 : p.Mode = 2
    · exact .inr (.inl a2)
    by_cases a3 : p.Mode = 3
    · exact .inr (.inr a3)
    simp [a1, a2, a3] at h7
end
section
open Go Classical
theorem w_small (v : value_Value) (hv : okS v.Text) : W (fun N => s_law04_Small N v) fun r => ¬ 0 < r → v.Text.length ≤ 100 := by
  have := okS_le hv
  simp only [s_law04_Small, W.gd, W.ret, i64b_eq]
  exact ⟨by omega, fun h => by omega⟩
theorem w_nOwn (l : List pred_Node) (hl : l.length ≤ 10000) : W (fun N => s_law11_Own N l) (· = l) := by
  simp only [s_law11_Own]
  refine wf2a (l := l) (fun pre ys => ys = pre) [] rfl rfl (by omega) rfl ?_ ?_
  · rintro F pre e rest ys hl' h1 h2 h3 rfl hn
    simp only [s_law11_Own_1, h1, h2, h3, Option.bind_some, cond_true, W.gd, true_and]
    refine ⟨Nat.ble_eq_true_of_le (by rw [hl'] at hl; simp at hl; omega), hn _ rfl⟩
  · rintro F ys h1 rfl
    simp only [s_law11_Own_1, h1, cond_false, W.ret]
theorem w_nOver (l : List pred_Node) (hl : okL (fun n : pred_Node => okS n.Val.Text) l) : W (fun N => s_law11_Over N l) fun b => ¬ 0 < b → l.length ≤ 40 ∧ ∀ n ∈ l, n.Var.length ≤ 40 ∧ n.Name.length ≤ 40 ∧ n.Val.Text.length ≤ 100 := by
  have hlen : l.length ≤ 9223372036854775807 := hl.2
  simp only [s_law11_Over, W.cond, W.ret, ltB_iff, ltB_not]
  refine ⟨fun h h2 => absurd (by omega) h2, fun h => ?_⟩
  refine wf1 (l := l) (fun pre => ∀ n ∈ pre, n.Var.length ≤ 40 ∧ n.Name.length ≤ 40 ∧ n.Val.Text.length ≤ 100) [] rfl rfl (by omega) (by simp) ?_ ?_
  · intro F pre e rest hl' h1 h2 h3 hp hn
    have he := hl.1 e (by rw [hl']; simp)
    simp only [s_law11_Over_1, h1, h2, h3, Option.bind_some, cond_true, W.cond, W.ret, gd_true, ltB_iff, ltB_not]
    refine ⟨fun _ h => absurd (by omega) h, fun h40 => ⟨fun _ h => absurd (by omega) h, fun h41 => ?_⟩⟩
    refine W.call (w_small e.Val he) fun b hb => ?_
    simp only [W.cond, W.ret, ltB_iff, ltB_not]
    refine ⟨fun _ h => absurd (by omega) h, fun hb0 => hn fun t ht => ?_⟩
    rcases List.mem_append.1 ht with ht | ht
    · exact hp t ht
    · rw [List.mem_singleton.1 ht]; exact ⟨by omega, by omega, hb (by omega)⟩
  · intro F h1 hp
    simp only [s_law11_Over_1, h1, cond_false, W.ret]
    exact fun _ => ⟨by omega, hp⟩
theorem w_gOver (p : shape_Pattern) (hp : ok_shape_Pattern p) : W (fun N => s_law13_Over N p) fun b => ¬ 0 < b → p.Body.length ≤ 50 ∧ p.By.length ≤ 40 ∧ ∀ n ∈ p.Body, n.Test.length ≤ 40 := by
  have hlen : p.Body.length ≤ 9223372036854775807 := hp.1.2
  simp only [s_law13_Over, W.cond, W.ret, ltB_iff, ltB_not]
  refine ⟨fun h h2 => absurd (by omega) h2, fun h => ⟨fun h' h2 => absurd (by omega) h2, fun h' => ?_⟩⟩
  refine wf1 (l := p.Body) (fun pre => ∀ n ∈ pre, n.Test.length ≤ 40) [] rfl rfl (by omega) (by simp) ?_ ?_
  · intro F pre e rest hl' h1 h2 h3 hq hn
    have he := hp.1.1 e (by rw [hl']; simp)
    have ht := he.2.2.2.2.2.2
    simp only [s_law13_Over_1, h1, h2, h3, Option.bind_some, cond_true, W.cond, W.ret, gd_true, ltB_iff, ltB_not]
    refine ⟨fun _ h => absurd (by omega) h, fun h40 => ⟨fun _ h => absurd (by omega) h, fun h41 => ?_⟩⟩
    refine W.call (w_nOver e.Test ⟨fun n hn => (ht.1 n hn).2.2.2.2.2.2.2, ht.2⟩) fun b hb => ?_
    simp only [W.cond, W.ret, ltB_iff, ltB_not]
    refine ⟨fun _ h => absurd (by omega) h, fun hb0 => hn fun t ht => ?_⟩
    rcases List.mem_append.1 ht with ht | ht
    · exact hq t ht
    · rw [List.mem_singleton.1 ht]; exact (hb (by omega)).1
  · intro F h1 hq
    simp only [s_law13_Over_1, h1, cond_false, W.ret]
    exact fun _ => ⟨by omega, by omega, hq⟩
theorem w_gOwn (p : shape_Pattern) (h50 : p.Body.length ≤ 50) (ht : ∀ n ∈ p.Body, n.Test.length ≤ 40) : W (fun N => s_law13_Own N p) (· = p) := by
  simp only [s_law13_Own]
  refine wf2a (l := p.Body) (fun pre ys => ys = pre) [] rfl rfl (by omega) rfl ?_ ?_
  · rintro F pre e rest ys hl' h1 h2 h3 rfl hn
    simp only [s_law13_Own_1, h1, h2, Option.bind_some, cond_true]
    refine W.call (w_nOwn e.Test (by have := ht e (by rw [hl']; simp); omega)) ?_
    rintro _ rfl
    simp only [h3, W.gd, true_and]
    exact ⟨Nat.ble_eq_true_of_le (by rw [hl'] at h50; simp at h50; omega), hn _ rfl⟩
  · rintro F ys h1 rfl
    simp only [s_law13_Own_1, h1, cond_false, W.ret]
end
end
section
/-- A walk: how many choices were taken, the leaves, and whether it has ended. -/
structure WS where
  tk : Int
  out : List Int
  en : Bool
def WS.ok (s : WS) : Prop := 0 ≤ s.tk ∧ s.tk ≤ 200 ∧ s.out.length ≤ 100 ∧ (s.en = false → s.out.length < 100)
def cho (cs : List Int) (s : WS) : Int × WS := if s.tk = 200 then (0, ⟨s.tk, s.out, true⟩) else (max 0 (min 8 (cs.getD s.tk.toNat 0)), ⟨s.tk + 1, s.out, s.en⟩)
def iterW (f : WS → WS) : Nat → WS → WS
  | 0, s => s
  | n + 1, s => if s.en then s else iterW f n (f s)
def timG (lo hi c : Int) : Int := if 0 < hi then min (lo + c) hi else lo + c
mutual
def GT.wk (cs : List Int) : GT → Nat → WS → WS
  | .leaf _ _ _ _, i, s => if s.en then s else ⟨s.tk, s.out ++ [(i : Int)], ((s.out ++ [(i : Int)]).length : Int) == 100⟩
  | .rep lo hi a, i, s => if s.en then s else iterW (fun s => GT.wk cs a (i + 1) s) (timG lo hi (cho cs s).1).toNat (cho cs s).2
  | .lst alt bs, i, s => if s.en then s else if alt then GT.wkp cs bs ((cho cs s).1.toNat % bs.length) (i + 1) (cho cs s).2 else GT.wks cs bs (i + 1) s
def GT.wkp (cs : List Int) : List GT → Nat → Nat → WS → WS
  | [], _, _, s => s
  | b :: bs, k, i, s => if k = 0 then GT.wk cs b i s else GT.wkp cs bs (k - 1) (i + (GT.fl b).length) s
def GT.wks (cs : List Int) : List GT → Nat → WS → WS
  | [], _, s => s
  | b :: bs, i, s => if s.en then s else GT.wks cs bs (i + (GT.fl b).length) (GT.wk cs b i s)
end
section
variable {cs : List Int}
theorem cho_ok {s : WS} (h : s.ok) : (cho cs s).2.ok ∧ 0 ≤ (cho cs s).1 ∧ (cho cs s).1 ≤ 8 := by
  obtain ⟨h1, h2, h3, h4⟩ := h
  unfold cho
  split
  · exact ⟨⟨h1, h2, h3, fun h => (by cases h)⟩, by omega, by omega⟩
  · exact ⟨⟨by show 0 ≤ s.tk + 1; omega, by show s.tk + 1 ≤ 200; omega, h3, h4⟩, by show 0 ≤ max 0 _; omega, by show max 0 (min 8 _) ≤ 8; omega⟩
theorem iterW_en {f : WS → WS} {s : WS} (h : s.en = true) : ∀ n, iterW f n s = s
  | 0 => rfl
  | n + 1 => by simp [iterW, h]
theorem wks_en {s : WS} (h : s.en = true) (bs : List GT) (i : Nat) : GT.wks cs bs i s = s := by
  cases bs with
  | nil => simp [GT.wks]
  | cons b bs => simp [GT.wks, h]
theorem iterW_ok {f : WS → WS} (hf : ∀ s, s.ok → (f s).ok) : ∀ (n : Nat) (s : WS), s.ok → (iterW f n s).ok
  | 0, s, h => h
  | n + 1, s, h => by
    unfold iterW
    split
    · exact h
    · exact iterW_ok hf n _ (hf s h)
mutual
theorem wk_ok : ∀ (t : GT) (i : Nat) (s : WS), s.ok → (GT.wk cs t i s).ok
  | .leaf _ _ _ _, i, s, h => by
    rw [GT.wk]
    split
    · exact h
    · rename_i he
      obtain ⟨h1, h2, h3, h4⟩ := h
      have h5 := h4 (by simpa using he)
      refine ⟨h1, h2, by simp; omega, fun h => ?_⟩
      simp at h ⊢
      omega
  | .rep lo hi a, i, s, h => by
    rw [GT.wk]
    split
    · exact h
    · exact iterW_ok (fun s hs => wk_ok a (i + 1) s hs) _ _ (cho_ok h).1
  | .lst alt bs, i, s, h => by
    rw [GT.wk]
    split
    · exact h
    · split
      · exact wkp_ok bs _ _ _ (cho_ok h).1
      · exact wks_ok bs _ _ h
theorem wkp_ok : ∀ (bs : List GT) (k i : Nat) (s : WS), s.ok → (GT.wkp cs bs k i s).ok
  | [], k, i, s, h => by rw [GT.wkp]; exact h
  | b :: bs, k, i, s, h => by
    rw [GT.wkp]
    split
    · exact wk_ok b i s h
    · exact wkp_ok bs _ _ s h
theorem wks_ok : ∀ (bs : List GT) (i : Nat) (s : WS), s.ok → (GT.wks cs bs i s).ok
  | [], i, s, h => by rw [GT.wks]; exact h
  | b :: bs, i, s, h => by
    rw [GT.wks]
    split
    · exact h
    · exact wks_ok bs _ _ (wk_ok b i s h)
end
theorem fls_len (a b : List GT) : (GT.fls (a ++ b)).length = (GT.fls a).length + (GT.fls b).length := by rw [fls_app, List.length_append]
theorem wkp_at {b : GT} {bs2 : List GT} : ∀ (bs1 : List GT) (i : Nat) (s : WS), GT.wkp cs (bs1 ++ b :: bs2) bs1.length i s = GT.wk cs b (i + (GT.fls bs1).length) s
  | [], i, s => by simp [GT.wkp, GT.fls]
  | a :: bs1, i, s => by
    rw [List.cons_append, GT.wkp, if_neg (by simp), List.length_cons, Nat.add_sub_cancel, wkp_at bs1, GT.fls, List.length_append, Nat.add_assoc]
theorem fl_pos : ∀ t : GT, ∃ e r, t.fl = e :: r
  | .leaf .. => ⟨_, _, rfl⟩
  | .rep .. => ⟨_, _, rfl⟩
  | .lst .. => ⟨_, _, rfl⟩
theorem ix_pre {α : Type} {l pre r : List α} {e : α} (h : l = pre ++ e :: r) : ix l (pre.length : Int) = some e := by
  rw [ix_nat', h]; simp
/-- The kids of a node. -/
def GT.kd : GT → List GT
  | .leaf .. => []
  | .rep _ _ a => [a]
  | .lst _ bs => bs
theorem fl_kd (t : GT) : ∃ e, t.fl = e :: GT.fls t.kd ∧ ∀ w, t.ok w → kdG e = (t.kd.length : Int) := by
  cases t with
  | leaf neg v ty o => exact ⟨_, rfl, fun w h => by cases neg <;> rfl⟩
  | rep lo hi a => exact ⟨_, by simp [GT.fl, GT.kd, GT.fls]; rfl, fun w h => rfl⟩
  | lst alt bs =>
    refine ⟨_, rfl, fun w h => ?_⟩
    obtain ⟨_, _, h3, _⟩ := h
    have : isLs (⟨kA alt, (bs.length : Int), 0, 0, [], [], []⟩ : shape_Node) = true := by cases alt <;> rfl
    simp only [kdG, this, if_true, GT.kd]
    omega
theorem kd_ok {t : GT} {w : Int} (h : t.ok w) : ∃ w', GT.oks t.kd w' := by
  cases t with
  | leaf => exact ⟨0, trivial⟩
  | rep lo hi a => exact ⟨3, h.2, trivial⟩
  | lst alt bs => exact ⟨_, h.2.2.2⟩
/-- So many trees, each of which may be somewhere. -/
def oksA (ts : List GT) : Prop := ∀ t ∈ ts, ∃ w, GT.ok t w
theorem oks_A : ∀ {ts : List GT} {w : Int}, GT.oks ts w → oksA ts
  | [], w, h => fun t ht => by cases ht
  | a :: ts, w, h => fun t ht => by
    rcases List.mem_cons.1 ht with rfl | ht
    · exact ⟨w, h.1⟩
    · exact oks_A h.2 t ht
theorem kdA {t : GT} {ts : List GT} (h : oksA (t :: ts)) : oksA (t.kd ++ ts) := fun x hx => by
  rcases List.mem_append.1 hx with hx | hx
  · obtain ⟨w, hw⟩ := h t (by simp)
    obtain ⟨w', hw'⟩ := kd_ok hw
    exact oks_A hw' x hx
  · exact h x (by simp [hx])
theorem w_size {pre post : List shape_Node} {t : GT} {w : Int} (ht : t.ok w) {l : List shape_Node} (hl : l = pre ++ (t.fl ++ post)) (hb : l.length ≤ 1000) : W (fun N => s_shape_Size N l (pre.length : Int)) (· = (t.fl.length : Int)) := by
  have hpos : 0 < t.fl.length := by obtain ⟨e, r, h⟩ := fl_pos t; rw [h]; simp
  have hlen : l.length = pre.length + (t.fl.length + post.length) := by rw [hl]; simp
  have hdr : List.drop pre.length l = t.fl ++ post := by rw [hl]; simp
  simp only [s_shape_Size, show ltB (pre.length : Int) 0 = false from ltB_not.2 (by omega), cond_false, show leB (l.length : Int) (pre.length : Int) = false from leB_not.2 (by omega), show leB 0 (pre.length : Int) = true from leB_iff.2 (by omega), show leB (pre.length : Int) (l.length : Int) = true from leB_iff.2 (by omega), gd_true, Int.toNat_natCast, hdr]
  refine W.lp2 (P := fun lack x => ∃ (ts : List GT) (m : Nat), oksA ts ∧ ts ≠ [] ∧ lack = (ts.length : Int) ∧ x = (m : Int) ∧ m ≤ t.fl.length ∧ (t.fl ++ post).drop m = GT.fls ts ++ post ∧ m + (GT.fls ts).length = t.fl.length) (m := fun _ x => (t.fl.length : Int).toNat - x.toNat)
    ⟨[t], 0, fun x hx => ⟨w, by rw [List.mem_singleton.1 hx]; exact ht⟩, by simp, rfl, rfl, by omega, by simp [GT.fls], by simp [GT.fls]⟩ ?_
  rintro F lack x ⟨ts, m, h1, h2, rfl, rfl, h3, h4, h5⟩ hn
  cases ts with
  | nil => exact absurd rfl h2
  | cons a ts =>
    obtain ⟨e, he, hk⟩ := fl_kd a
    obtain ⟨wa, ha⟩ := h1 a (by simp)
    have hk := hk wa ha
    rw [GT.fls, he] at h4 h5
    have hm : m < t.fl.length := by simp at h5; omega
    have hix : ix (t.fl ++ post) (m : Int) = some e := by
      rw [ix_nat', ← List.head?_drop, h4]; simp
    have hts : ts.length ≤ 100000 := by
      have : ∀ us : List GT, us.length ≤ (GT.fls us).length := fun us => by
        induction us with
        | nil => simp
        | cons u us ih =>
          obtain ⟨e, r, h⟩ := fl_pos u
          rw [GT.fls, h]; simp; omega
      have := this ts
      simp at h5; omega
    simp only [s_shape_Size_1, show ltB (m : Int) ((t.fl ++ post).length : Int) = true from ltB_iff.2 (by simp; omega), cond_true, hix, Option.bind_some, e_kdG, hk]
    have hkb : a.kd.length ≤ 100000 := by
      have := kdG_le e
      omega
    simp only [W.gd, i64b_eq, List.length_cons]
    refine ⟨by omega, by omega, ?_⟩
    have hl2 : (((ts.length + 1 : Nat) : Int) + ((a.kd.length : Int) - 1)) = ((a.kd ++ ts).length : Int) := by simp; omega
    rw [hl2]
    have hd1 : (t.fl ++ post).drop (m + 1) = GT.fls (a.kd ++ ts) ++ post := by
      rw [← List.drop_drop, h4, fls_app]; simp
    have hs1 : m + 1 + (GT.fls (a.kd ++ ts)).length = t.fl.length := by
      rw [fls_app]; simp at h5 ⊢; omega
    by_cases hz : a.kd ++ ts = []
    · simp only [hz, List.length_nil, show (((0 : Nat) : Int) == 0) = true from rfl, cond_true, W.gd, i64b_eq, W.ret]
      rw [hz] at hs1
      simp only [GT.fls, List.length_nil] at hs1
      exact ⟨by omega, by omega⟩
    · have hz' : (((a.kd ++ ts).length : Int) == 0) = false := by
        have : (a.kd ++ ts).length ≠ 0 := fun h => hz (List.length_eq_zero_iff.1 h)
        rw [beq_eq_false_iff_ne]; omega
      simp only [hz', cond_false, W.gd, i64b_eq]
      refine ⟨by omega, hn _ _ ⟨a.kd ++ ts, m + 1, kdA h1, hz, rfl, by omega, by omega, hd1, hs1⟩ (by omega)⟩
end
end
section
theorem getD_lt {cs : List Int} {i : Nat} (h : i < cs.length) (d : Int) : cs.getD i d = cs[i] := by simp [List.getD, h]
theorem e_choice9 {body : List shape_Node} {cs : List Int} {s : WS} (h : s.ok) (N : Nat) : s_scope_walker_choice_v758 N body cs s.tk s.en s.out = some ((cho cs s).1, body, cs, (cho cs s).2.tk, (cho cs s).2.en, (cho cs s).2.out) := by
  obtain ⟨h1, h2, h3, h4⟩ := h
  unfold s_scope_walker_choice_v758 cho
  by_cases h5 : s.tk = 200
  · simp [h5]
  · rw [if_neg h5]
    simp only [show (s.tk == 200) = false by simpa using h5, cond_false, show i64b (s.tk + 1) = true from i64b_eq.2 (by omega), gd_true]
    obtain ⟨n, hn⟩ := Int.eq_ofNat_of_zero_le h1
    by_cases h6 : (cs.length : Int) < s.tk + 1
    · simp only [show ltB (cs.length : Int) (s.tk + 1) = true from ltB_iff.2 h6, cond_true]
      rw [hn] at h6 ⊢
      have : cs.getD (n : Int).toNat 0 = 0 := by
        rw [List.getD, List.getElem?_eq_none (by simp; omega)]; rfl
      rw [this]; rfl
    · simp only [show ltB (cs.length : Int) (s.tk + 1) = false from ltB_not.2 (by omega), cond_false, show s.tk + 1 - 1 = s.tk by omega, show i64b s.tk = true from i64b_eq.2 (by omega), gd_true]
      have h7 : s.tk.toNat < cs.length := by omega
      rw [show ix cs s.tk = some cs[s.tk.toNat] by rw [ix, if_pos h1]; simp [h7], getD_lt h7, Option.bind_some, Int.min_comm]
theorem e_choice2 {body : List shape_Node} {cs : List Int} {s : WS} (h : s.ok) (N : Nat) : s_scope_walker_choice_v240 N body cs s.tk s.en = some ((cho cs s).1, body, cs, (cho cs s).2.tk, (cho cs s).2.en) := by
  have := e_choice9 (body := body) (cs := cs) h N
  unfold s_scope_walker_choice_v758 at this
  unfold s_scope_walker_choice_v240
  by_cases h5 : s.tk = 200
  · simp [h5, cho]
  · obtain ⟨h1, h2, h3, h4⟩ := h
    simp only [show (s.tk == 200) = false by simpa using h5, cond_false, show i64b (s.tk + 1) = true from i64b_eq.2 (by omega), gd_true] at this ⊢
    by_cases h6 : (cs.length : Int) < s.tk + 1
    · simp only [show ltB (cs.length : Int) (s.tk + 1) = true from ltB_iff.2 h6, cond_true] at this ⊢
      simp only [Option.some.injEq, Prod.mk.injEq, true_and] at this ⊢
      exact ⟨this.1, this.2.1, this.2.2.1⟩
    · simp only [show ltB (cs.length : Int) (s.tk + 1) = false from ltB_not.2 (by omega), cond_false, show i64b (s.tk + 1 - 1) = true from i64b_eq.2 (by omega), gd_true] at this ⊢
      cases hx : ix cs (s.tk + 1 - 1) with
      | none => rw [hx] at this; cases this
      | some e =>
        rw [hx] at this
        simp only [Option.bind_some, Option.some.injEq, Prod.mk.injEq, true_and] at this ⊢
        exact ⟨this.1, this.2.1, this.2.2.1⟩
theorem cho_out (cs : List Int) (s : WS) : (cho cs s).2.out = s.out := by unfold cho; split <;> rfl
section
variable {body : List shape_Node} {cs : List Int}
def R9 (body : List shape_Node) (cs : List Int) (s : WS) (r : (List shape_Node × List Int × Int × Bool × List Int) ⊕ (List shape_Node × List Int × Int × Bool × List Int)) : Prop := r = .inl (body, cs, s.tk, s.en, s.out) ∨ r = .inr (body, cs, s.tk, s.en, s.out)
def P9 (body : List shape_Node) (cs : List Int) (t : GT) : Prop := ∀ (pre post : List shape_Node) (s : WS), s.ok → body = pre ++ (t.fl ++ post) → W (fun N => (SS_scope_walker_tree_v950 N) (pre.length : Int) body cs s.tk s.en s.out) (R9 body cs (t.wk cs pre.length s))
theorem p9_leaf {neg : Bool} {v ty : List UInt8} {o : Option TT} : P9 body cs (.leaf neg v ty o) := by
  intro pre post s hs hb
  refine W.shift ?_
  show W (fun N => b_scope_walker_tree_v950 N (SS_scope_walker_tree_v950 N) _ _ _ _ _ _) _
  have hix := ix_pre (l := body) (pre := pre) (e := ⟨kL neg, 0, 0, 0, v, ty, oT o⟩) (r := post) hb
  obtain ⟨h1, h2, h3, h4⟩ := hs
  rw [GT.wk]
  simp only [b_scope_walker_tree_v950, hix, Option.bind_some]
  cases he : s.en
  · simp only [cond_false, Bool.false_eq_true, if_false]
    have hl : ∀ N, s_scope_leaf N ⟨kL neg, 0, 0, 0, v, ty, oT o⟩ = some true := fun N => by cases neg <;> rfl
    simp only [hl, Option.bind_some, cond_true, W.gd, W.ret]
    exact ⟨Nat.ble_eq_true_of_le (by omega), .inr rfl⟩
  · simp only [cond_true, if_true, W.ret]
    exact .inl (by rw [← he])
theorem p9_rep {lo hi : Int} {a : GT} {w : Int} (h : (GT.rep lo hi a).ok w) (ih : P9 body cs a) (hlen : body.length ≤ 1000) : P9 body cs (.rep lo hi a) := by
  intro pre post s hs hb
  refine W.shift ?_
  show W (fun N => b_scope_walker_tree_v950 N (SS_scope_walker_tree_v950 N) _ _ _ _ _ _) _
  have hix := ix_pre (l := body) (pre := pre) (e := ⟨3, 1, lo, hi, [], [], []⟩) (r := a.fl ++ post) (by rw [hb]; simp [GT.fl])
  have hpl : pre.length ≤ 1000 := by rw [hb] at hlen; simp at hlen; omega
  obtain ⟨⟨l1, l2, l3, l4, _, _⟩, _⟩ := h
  rw [GT.wk]
  simp only [b_scope_walker_tree_v950, hix, Option.bind_some, bothN_eq]
  cases he : s.en
  rotate_left
  · simp only [cond_true, if_true, W.ret]
    exact .inl (by rw [← he])
  simp only [cond_false, Bool.false_eq_true, if_false]
  have hl : ∀ N, s_scope_leaf N ⟨3, 1, lo, hi, [], [], []⟩ = some false := fun N => rfl
  obtain ⟨c1, c2, c3⟩ := cho_ok (cs := cs) hs
  rw [← he]
  simp only [hl, Option.bind_some, cond_false, show ((3 : Int) == 2) = false from rfl, show ((3 : Int) == 3) = true from rfl, cond_true, e_choice9 hs, W.gd, i64b_eq]
  generalize hc : cho cs s = q at c1 c2 c3 ⊢
  obtain ⟨c, s'⟩ := q
  simp only at c1 c2 c3 ⊢
  have loop : ∀ times : Int, times = timG lo hi c → W (fun i => lp6 (s_scope_walker_tree_v950_2 i (SS_scope_walker_tree_v950 i) (pre.length : Int) times) i 0 body cs s'.tk s'.en s'.out) (R9 body cs (iterW (fun s => GT.wk cs a (pre.length + 1) s) times.toNat s')) := by
    intro times htm
    refine W.lp6 (N := fun N => N) (P := fun i y1 y2 tk en out => ∃ u : WS, u.ok ∧ y1 = body ∧ y2 = cs ∧ tk = u.tk ∧ en = u.en ∧ out = u.out ∧ 0 ≤ i ∧ i ≤ max 0 times ∧ iterW (fun s => GT.wk cs a (pre.length + 1) s) (times - i).toNat u = iterW (fun s => GT.wk cs a (pre.length + 1) s) times.toNat s') (m := fun i _ _ _ _ _ => (times - i).toNat)
      ⟨s', c1, rfl, rfl, rfl, rfl, rfl, Int.le_refl _, by omega, by rw [Int.sub_zero]⟩ ?_
    rintro F i y1 y2 tk en out ⟨u, hu, rfl, rfl, rfl, rfl, rfl, i0, i1, i2⟩ hn
    simp only [s_scope_walker_tree_v950_2]
    have htb : times ≤ 100 := by rw [htm]; unfold timG; split <;> omega
    by_cases hlt : i < times
    · simp only [show ltB i times = true from ltB_iff.2 hlt, cond_true]
      obtain ⟨m, hm⟩ : ∃ m, (times - i).toNat = m + 1 := ⟨(times - i).toNat - 1, by omega⟩
      cases hue : u.en
      · simp only [Bool.not_false, cond_true, W.gd, i64b_eq]
        refine ⟨by omega, ?_⟩
        have hcall := ih (pre ++ [⟨3, 1, lo, hi, [], [], []⟩]) post u hu (by rw [hb]; simp [GT.fl])
        have e1 : ((pre ++ [(⟨3, 1, lo, hi, [], [], []⟩ : shape_Node)]).length : Int) = (pre.length : Int) + 1 := by simp
        have e2 : (pre ++ [(⟨3, 1, lo, hi, [], [], []⟩ : shape_Node)]).length = pre.length + 1 := by simp
        rw [e1, e2, hue] at hcall
        refine W.bind (W.lift hcall) ?_
        have hu' : (a.wk y2 (pre.length + 1) u).ok := wk_ok a _ _ hu
        rw [hm, iterW, if_neg (by rw [hue]; simp)] at i2
        rintro r (rfl | rfl)
        all_goals
          simp only [Sum.elim_inl, Sum.elim_inr, W.gd, i64b_eq]
          exact ⟨by omega, hn _ _ _ _ _ _ ⟨_, hu', rfl, rfl, rfl, rfl, rfl, by omega, by omega, by rw [show (times - (i + 1)).toNat = m by omega]; exact i2⟩ (by omega)⟩
      · simp only [Bool.not_true, cond_false, W.ret]
        rw [iterW_en hue] at i2
        rw [← i2]
        exact .inr (by rw [hue])
    · simp only [show ltB i times = false from ltB_not.2 (by omega), cond_false, W.ret]
      rw [show (times - i).toNat = 0 by omega, iterW] at i2
      rw [← i2]
      exact .inr rfl
  refine ⟨by omega, ?_⟩
  by_cases hh : 0 < hi
  · simp only [show ltB 0 hi = true from ltB_iff.2 hh, cond_true]
    have := loop (min (lo + c) hi) (by rw [timG, if_pos hh])
    rw [timG, if_pos hh]
    exact this
  · simp only [show ltB 0 hi = false from ltB_not.2 (by omega), cond_false]
    have := loop (lo + c) (by rw [timG, if_neg hh])
    rw [timG, if_neg hh]
    exact this
theorem p9_lst {alt : Bool} {bs : List GT} {w : Int} (h : (GT.lst alt bs).ok w) (ih : ∀ b ∈ bs, P9 body cs b) (hlen : body.length ≤ 1000) : P9 body cs (.lst alt bs) := by
  intro pre post s hs hb
  refine W.shift ?_
  show W (fun N => b_scope_walker_tree_v950 N (SS_scope_walker_tree_v950 N) _ _ _ _ _ _) _
  have hb' : body = pre ++ [(⟨kA alt, (bs.length : Int), 0, 0, [], [], []⟩ : shape_Node)] ++ (GT.fls bs ++ post) := by rw [hb]; simp [GT.fl]
  have hix := ix_pre (l := body) (pre := pre) (e := ⟨kA alt, (bs.length : Int), 0, 0, [], [], []⟩) (r := GT.fls bs ++ post) (by rw [hb]; simp [GT.fl])
  have hpl : pre.length + (GT.fls bs).length + 1 ≤ 1000 := by rw [hb'] at hlen; simp at hlen; omega
  obtain ⟨_, k1, k2, k3⟩ := h
  have hoA := oks_A k3
  -- a kid, and what lies ahead of it and behind
  have split : ∀ {bs1 bs2 : List GT} {b : GT}, bs = bs1 ++ b :: bs2 → body = (pre ++ [(⟨kA alt, (bs.length : Int), 0, 0, [], [], []⟩ : shape_Node)] ++ GT.fls bs1) ++ (b.fl ++ (GT.fls bs2 ++ post)) ∧ (pre ++ [(⟨kA alt, (bs.length : Int), 0, 0, [], [], []⟩ : shape_Node)] ++ GT.fls bs1).length = pre.length + 1 + (GT.fls bs1).length := fun {bs1 bs2 b} hs => by
    refine ⟨?_, by simp; omega⟩
    have : GT.fls bs = GT.fls bs1 ++ (b.fl ++ GT.fls bs2) := by rw [hs, fls_app, GT.fls]
    rw [hb', this]
    simp only [List.append_assoc]
  rw [GT.wk]
  simp only [b_scope_walker_tree_v950, hix, Option.bind_some, bothN_eq]
  cases he : s.en
  rotate_left
  · simp only [cond_true, if_true, W.ret]
    exact .inl (by rw [← he])
  simp only [cond_false, Bool.false_eq_true, if_false]
  have hl : ∀ N, s_scope_leaf N ⟨kA alt, (bs.length : Int), 0, 0, [], [], []⟩ = some false := fun N => by cases alt <;> rfl
  rw [← he]
  simp only [hl, Option.bind_some, cond_false]
  cases alt
  · -- one behind the other
    simp only [show ((kA false) == 2) = false from rfl, show ((kA false) == 3) = false from rfl, cond_false, W.gd, i64b_eq, Bool.false_eq_true, if_false]
    refine ⟨by omega, ?_⟩
    refine W.lp7 (N := fun N => N) (P := fun v i y1 y2 tk en out => ∃ (u : WS) (bs1 bs2 : List GT), u.ok ∧ bs = bs1 ++ bs2 ∧ v = ((pre.length + 1 + (GT.fls bs1).length : Nat) : Int) ∧ i = (bs1.length : Int) ∧ y1 = body ∧ y2 = cs ∧ tk = u.tk ∧ en = u.en ∧ out = u.out ∧ GT.wks cs bs2 (pre.length + 1 + (GT.fls bs1).length) u = GT.wks cs bs (pre.length + 1) s) (m := fun _ i _ _ _ _ _ => bs.length - i.toNat)
      ⟨s, [], bs, hs, rfl, by simp [GT.fls], rfl, rfl, rfl, rfl, rfl, rfl, by simp [GT.fls]⟩ ?_
    rintro F v i y1 y2 tk en out ⟨u, bs1, bs2, hu, hbs, rfl, rfl, rfl, rfl, rfl, rfl, rfl, hw⟩ hn
    simp only [s_scope_walker_tree_v950_3]
    cases bs2 with
    | nil =>
      rw [List.append_nil] at hbs
      simp only [show ltB (bs1.length : Int) (bs.length : Int) = false from ltB_not.2 (by rw [hbs]; omega), cond_false, W.ret]
      rw [GT.wks] at hw
      rw [← hw]
      exact .inr rfl
    | cons b bs2 =>
      have hbl : bs.length = bs1.length + (bs2.length + 1) := by rw [hbs]; simp
      simp only [show ltB (bs1.length : Int) (bs.length : Int) = true from ltB_iff.2 (by omega), cond_true]
      cases hue : u.en
      · simp only [Bool.not_false, cond_true]
        obtain ⟨s1, s2⟩ := split hbs
        have hcall := ih b (by rw [hbs]; simp) _ _ u hu s1
        rw [s2, hue] at hcall
        refine W.bind (W.lift hcall) ?_
        rw [GT.wks, if_neg (by rw [hue]; simp)] at hw
        obtain ⟨wb, hwb⟩ := hoA b (by rw [hbs]; simp)
        have hsz := w_size hwb s1 hlen
        rw [s2] at hsz
        have hu' : (b.wk y2 (pre.length + 1 + (GT.fls bs1).length) u).ok := wk_ok b _ _ hu
        have hfl : (GT.fls bs1).length + b.fl.length ≤ (GT.fls bs).length := by rw [hbs, fls_app, GT.fls]; simp only [List.length_append]; omega
        rintro r (rfl | rfl)
        all_goals
          simp only [Sum.elim_inl, Sum.elim_inr]
          refine W.call hsz ?_
          rintro _ rfl
          simp only [W.gd, i64b_eq]
          refine ⟨by omega, by omega, hn _ _ _ _ _ _ _ ⟨_, bs1 ++ [b], bs2, hu', by rw [hbs]; simp, by rw [fls_app]; simp only [GT.fls, List.length_append, List.append_nil]; omega, by simp, rfl, rfl, rfl, rfl, rfl, ?_⟩ (by omega)⟩
          rw [← hw, fls_app]
          simp only [GT.fls, List.length_append, List.append_nil, Nat.add_assoc]
      · simp only [Bool.not_true, cond_false, W.ret]
        rw [wks_en hue] at hw
        rw [← hw]
        exact .inr (by rw [hue])
  · -- one of them
    obtain ⟨c1, c2, c3⟩ := cho_ok (cs := cs) hs
    simp only [show ((kA true) == 2) = true from rfl, cond_true, W.gd, i64b_eq, if_true, e_choice9 hs, Option.bind_some]
    generalize hc : cho cs s = q at c1 c2 c3 ⊢
    obtain ⟨c, s'⟩ := q
    simp only at c1 c2 c3 ⊢
    refine ⟨by omega, by rw [bne_iff_ne]; omega, ?_⟩
    have hmod : Int.tmod c (bs.length : Int) = ((c.toNat % bs.length : Nat) : Int) := by
      obtain ⟨n, rfl⟩ := Int.eq_ofNat_of_zero_le c2
      rfl
    have hkl : c.toNat % bs.length < bs.length := Nat.mod_lt _ (by omega)
    rw [hmod]
    generalize c.toNat % bs.length = k at hkl ⊢
    refine W.lp2 (N := fun N => N) (P := fun v i => ∃ (bs1 bs2 : List GT), bs = bs1 ++ bs2 ∧ v = ((pre.length + 1 + (GT.fls bs1).length : Nat) : Int) ∧ i = (bs1.length : Int) ∧ bs1.length ≤ k) (m := fun _ i => k - i.toNat)
      ⟨[], bs, rfl, by simp [GT.fls], rfl, by simp⟩ ?_
    rintro F v i ⟨bs1, bs2, hbs, rfl, rfl, hk⟩ hn
    cases bs2 with
    | nil => rw [List.append_nil] at hbs; rw [hbs] at hkl; omega
    | cons b bs2 =>
      obtain ⟨s1, s2⟩ := split hbs
      simp only [s_scope_walker_tree_v950_1]
      have hfl : (GT.fls bs1).length + b.fl.length ≤ (GT.fls bs).length := by rw [hbs, fls_app, GT.fls]; simp only [List.length_append]; omega
      by_cases hlt : bs1.length < k
      · obtain ⟨wb, hwb⟩ := hoA b (by rw [hbs]; simp)
        have hsz := w_size hwb s1 hlen
        rw [s2] at hsz
        simp only [show ltB (bs1.length : Int) (k : Int) = true from ltB_iff.2 (by omega), cond_true]
        refine W.call hsz ?_
        rintro _ rfl
        simp only [W.gd, i64b_eq]
        exact ⟨by omega, by omega, hn _ _ ⟨bs1 ++ [b], bs2, by rw [hbs]; simp, by rw [fls_app]; simp only [GT.fls, List.length_append, List.append_nil]; omega, by simp, by simp; omega⟩ (by omega)⟩
      · obtain rfl : k = bs1.length := by omega
        simp only [show ltB (bs1.length : Int) (bs1.length : Int) = false from ltB_irr _, cond_false]
        have hcall := ih b (by rw [hbs]; simp) _ _ s' c1 s1
        rw [s2] at hcall
        refine W.bind (W.lift hcall) ?_
        have hwk := wkp_at (cs := cs) (b := b) (bs2 := bs2) bs1 (pre.length + 1) s'
        rw [← hbs] at hwk
        rw [hwk]
        rintro r (rfl | rfl)
        · simp only [Sum.elim_inl, W.ret]; exact .inl rfl
        · simp only [Sum.elim_inr, W.ret]; exact .inr rfl
mutual
theorem p9 (hlen : body.length ≤ 1000) : ∀ (t : GT) (w : Int), t.ok w → P9 body cs t
  | .leaf neg v ty o, w, h => p9_leaf
  | .rep lo hi a, w, h => p9_rep h (p9 hlen a 3 h.2) hlen
  | .lst alt bs, w, h => p9_lst h (p9s hlen bs (kA alt) h.2.2.2) hlen
theorem p9s (hlen : body.length ≤ 1000) : ∀ (bs : List GT) (w : Int), GT.oks bs w → ∀ b ∈ bs, P9 body cs b
  | [], w, _, b, hb => by cases hb
  | a :: r, w, h, b, hb => by
    rcases List.mem_cons.1 hb with e | hb
    · rw [e]; exact p9 hlen a w h.1
    · exact p9s hlen r w h.2 b hb
end
end
end
section
section
variable {body : List shape_Node} {cs : List Int}
def R5 (body : List shape_Node) (cs : List Int) (s : WS) (r : (List shape_Node × List Int × Int × Bool) ⊕ (List shape_Node × List Int × Int × Bool × List Int)) : Prop := (r = .inl (body, cs, s.tk, s.en) ∧ s.out = []) ∨ r = .inr (body, cs, s.tk, s.en, s.out)
def P5 (body : List shape_Node) (cs : List Int) (t : GT) : Prop := ∀ (pre post : List shape_Node) (s : WS), s.ok → s.out = [] → body = pre ++ (t.fl ++ post) → W (fun N => (SS_scope_walker_tree_v577 N) (pre.length : Int) body cs s.tk s.en) (R5 body cs (t.wk cs pre.length s))
theorem p9s9 (hlen : body.length ≤ 1000) {t : GT} {w : Int} (h : t.ok w) {pre post : List shape_Node} {s : WS} (hs : s.ok) (hb : body = pre ++ (t.fl ++ post)) : W (fun N => s_scope_walker_tree_v950 N (pre.length : Int) body cs s.tk s.en s.out) (R9 body cs (t.wk cs pre.length s)) := p9 hlen t w h pre post s hs hb
theorem p5_leaf {neg : Bool} {v ty : List UInt8} {o : Option TT} : P5 body cs (.leaf neg v ty o) := by
  intro pre post s hs ho hb
  refine W.shift ?_
  show W (fun N => b_scope_walker_tree_v577 N (SS_scope_walker_tree_v577 N) _ _ _ _ _) _
  have hix := ix_pre (l := body) (pre := pre) (e := ⟨kL neg, 0, 0, 0, v, ty, oT o⟩) (r := post) hb
  rw [GT.wk]
  simp only [b_scope_walker_tree_v577, hix, Option.bind_some]
  cases he : s.en
  · simp only [cond_false, Bool.false_eq_true, if_false]
    have hl : ∀ N, s_scope_leaf N ⟨kL neg, 0, 0, 0, v, ty, oT o⟩ = some true := fun N => by cases neg <;> rfl
    simp only [hl, Option.bind_some, cond_true, W.ret, ho]
    exact .inr rfl
  · simp only [cond_true, if_true, W.ret]
    exact .inl ⟨by rw [he], ho⟩
theorem p5_rep {lo hi : Int} {a : GT} {w : Int} (h : (GT.rep lo hi a).ok w) (hlen : body.length ≤ 1000) : P5 body cs (.rep lo hi a) := by
  intro pre post s hs ho hb
  refine W.shift ?_
  show W (fun N => b_scope_walker_tree_v577 N (SS_scope_walker_tree_v577 N) _ _ _ _ _) _
  have hix := ix_pre (l := body) (pre := pre) (e := ⟨3, 1, lo, hi, [], [], []⟩) (r := a.fl ++ post) (by rw [hb]; simp [GT.fl])
  have hpl : pre.length ≤ 1000 := by rw [hb] at hlen; simp at hlen; omega
  obtain ⟨⟨l1, l2, l3, l4, _, _⟩, hao⟩ := h
  rw [GT.wk]
  simp only [b_scope_walker_tree_v577, hix, Option.bind_some, bothN_eq]
  cases he : s.en
  rotate_left
  · simp only [cond_true, if_true, W.ret]
    exact .inl ⟨by rw [he], ho⟩
  simp only [cond_false, Bool.false_eq_true, if_false]
  have hl : ∀ N, s_scope_leaf N ⟨3, 1, lo, hi, [], [], []⟩ = some false := fun N => rfl
  obtain ⟨c1, c2, c3⟩ := cho_ok (cs := cs) hs
  have hco := cho_out cs s
  rw [← he]
  simp only [hl, Option.bind_some, cond_false, show ((3 : Int) == 2) = false from rfl, show ((3 : Int) == 3) = true from rfl, cond_true, e_choice2 hs, W.gd, i64b_eq]
  generalize hc : cho cs s = q at c1 c2 c3 hco ⊢
  obtain ⟨c, s'⟩ := q
  simp only at c1 c2 c3 hco ⊢
  rw [ho] at hco
  have loop : ∀ times : Int, times = timG lo hi c → W (fun i => lp6 (s_scope_walker_tree_v577_2 i (SS_scope_walker_tree_v577 i) (pre.length : Int) times) i 0 body cs s'.tk s'.en []) (R5 body cs (iterW (fun s => GT.wk cs a (pre.length + 1) s) times.toNat s')) := by
    intro times htm
    refine W.lp6 (N := fun N => N) (P := fun i y1 y2 tk en out => ∃ u : WS, u.ok ∧ y1 = body ∧ y2 = cs ∧ tk = u.tk ∧ en = u.en ∧ out = u.out ∧ 0 ≤ i ∧ i ≤ max 0 times ∧ iterW (fun s => GT.wk cs a (pre.length + 1) s) (times - i).toNat u = iterW (fun s => GT.wk cs a (pre.length + 1) s) times.toNat s') (m := fun i _ _ _ _ _ => (times - i).toNat)
      ⟨s', c1, rfl, rfl, rfl, rfl, hco.symm, Int.le_refl _, by omega, by rw [Int.sub_zero]⟩ ?_
    rintro F i y1 y2 tk en out ⟨u, hu, rfl, rfl, rfl, rfl, rfl, i0, i1, i2⟩ hn
    simp only [s_scope_walker_tree_v577_2]
    have htb : times ≤ 100 := by rw [htm]; unfold timG; split <;> omega
    by_cases hlt : i < times
    · simp only [show ltB i times = true from ltB_iff.2 hlt, cond_true]
      obtain ⟨m, hm⟩ : ∃ m, (times - i).toNat = m + 1 := ⟨(times - i).toNat - 1, by omega⟩
      cases hue : u.en
      · simp only [Bool.not_false, cond_true, W.gd, i64b_eq]
        refine ⟨by omega, ?_⟩
        have hcall := p9s9 (cs := y2) hlen hao (pre := pre ++ [⟨3, 1, lo, hi, [], [], []⟩]) (post := post) hu (by rw [hb]; simp [GT.fl])
        have e1 : ((pre ++ [(⟨3, 1, lo, hi, [], [], []⟩ : shape_Node)]).length : Int) = (pre.length : Int) + 1 := by simp
        have e2 : (pre ++ [(⟨3, 1, lo, hi, [], [], []⟩ : shape_Node)]).length = pre.length + 1 := by simp
        rw [e1, e2, hue] at hcall
        refine W.call hcall ?_
        have hu' : (a.wk y2 (pre.length + 1) u).ok := wk_ok a _ _ hu
        rw [hm, iterW, if_neg (by rw [hue]; simp)] at i2
        rintro r (rfl | rfl)
        all_goals
          simp only [Sum.elim_inl, Sum.elim_inr, W.gd, i64b_eq]
          exact ⟨by omega, hn _ _ _ _ _ _ ⟨_, hu', rfl, rfl, rfl, rfl, rfl, by omega, by omega, by rw [show (times - (i + 1)).toNat = m by omega]; exact i2⟩ (by omega)⟩
      · simp only [Bool.not_true, cond_false, W.ret]
        rw [iterW_en hue] at i2
        rw [← i2]
        exact .inr (by rw [hue])
    · simp only [show ltB i times = false from ltB_not.2 (by omega), cond_false, W.ret]
      rw [show (times - i).toNat = 0 by omega, iterW] at i2
      rw [← i2]
      exact .inr rfl
  refine ⟨by omega, ?_⟩
  by_cases hh : 0 < hi
  · simp only [show ltB 0 hi = true from ltB_iff.2 hh, cond_true]
    have := loop (min (lo + c) hi) (by rw [timG, if_pos hh])
    rw [timG, if_pos hh]
    exact this
  · simp only [show ltB 0 hi = false from ltB_not.2 (by omega), cond_false]
    have := loop (lo + c) (by rw [timG, if_neg hh])
    rw [timG, if_neg hh]
    exact this
/-- A kid, and what lies ahead of it and behind. -/
theorem kid_at {pre post : List shape_Node} {e : shape_Node} {bs bs1 bs2 : List GT} {b : GT} (hb : body = pre ++ [e] ++ (GT.fls bs ++ post)) (hs : bs = bs1 ++ b :: bs2) : body = (pre ++ [e] ++ GT.fls bs1) ++ (b.fl ++ (GT.fls bs2 ++ post)) ∧ (pre ++ [e] ++ GT.fls bs1).length = pre.length + 1 + (GT.fls bs1).length ∧ (GT.fls bs1).length + b.fl.length ≤ (GT.fls bs).length := by
  have : GT.fls bs = GT.fls bs1 ++ (b.fl ++ GT.fls bs2) := by rw [hs, fls_app, GT.fls]
  refine ⟨?_, by simp; omega, by rw [this]; simp only [List.length_append]; omega⟩
  rw [hb, this]
  simp only [List.append_assoc]
theorem p5_lst {alt : Bool} {bs : List GT} {w : Int} (h : (GT.lst alt bs).ok w) (ih : ∀ b ∈ bs, P5 body cs b) (hlen : body.length ≤ 1000) : P5 body cs (.lst alt bs) := by
  intro pre post s hs ho hb
  refine W.shift ?_
  show W (fun N => b_scope_walker_tree_v577 N (SS_scope_walker_tree_v577 N) _ _ _ _ _) _
  have hb' : body = pre ++ [(⟨kA alt, (bs.length : Int), 0, 0, [], [], []⟩ : shape_Node)] ++ (GT.fls bs ++ post) := by rw [hb]; simp [GT.fl]
  have hix := ix_pre (l := body) (pre := pre) (e := ⟨kA alt, (bs.length : Int), 0, 0, [], [], []⟩) (r := GT.fls bs ++ post) (by rw [hb]; simp [GT.fl])
  have hpl : pre.length + (GT.fls bs).length + 1 ≤ 1000 := by rw [hb'] at hlen; simp at hlen; omega
  obtain ⟨_, k1, k2, k3⟩ := h
  have hoA := oks_A k3
  rw [GT.wk]
  simp only [b_scope_walker_tree_v577, hix, Option.bind_some, bothN_eq]
  cases he : s.en
  rotate_left
  · simp only [cond_true, if_true, W.ret]
    exact .inl ⟨by rw [he], ho⟩
  simp only [cond_false, Bool.false_eq_true, if_false]
  have hl : ∀ N, s_scope_leaf N ⟨kA alt, (bs.length : Int), 0, 0, [], [], []⟩ = some false := fun N => by cases alt <;> rfl
  rw [← he]
  simp only [hl, Option.bind_some, cond_false]
  cases alt
  · simp only [show ((kA false) == 2) = false from rfl, show ((kA false) == 3) = false from rfl, cond_false, W.gd, i64b_eq, Bool.false_eq_true, if_false]
    refine ⟨by omega, ?_⟩
    refine W.lp7 (N := fun N => N) (P := fun v i y1 y2 tk en out => ∃ (u : WS) (bs1 bs2 : List GT), u.ok ∧ bs = bs1 ++ bs2 ∧ v = ((pre.length + 1 + (GT.fls bs1).length : Nat) : Int) ∧ i = (bs1.length : Int) ∧ y1 = body ∧ y2 = cs ∧ tk = u.tk ∧ en = u.en ∧ out = u.out ∧ GT.wks cs bs2 (pre.length + 1 + (GT.fls bs1).length) u = GT.wks cs bs (pre.length + 1) s) (m := fun _ i _ _ _ _ _ => bs.length - i.toNat)
      ⟨s, [], bs, hs, rfl, by simp [GT.fls], rfl, rfl, rfl, rfl, rfl, ho.symm, by simp [GT.fls]⟩ ?_
    rintro F v i y1 y2 tk en out ⟨u, bs1, bs2, hu, hbs, rfl, rfl, rfl, rfl, rfl, rfl, rfl, hw⟩ hn
    simp only [s_scope_walker_tree_v577_3]
    cases bs2 with
    | nil =>
      rw [List.append_nil] at hbs
      simp only [show ltB (bs1.length : Int) (bs.length : Int) = false from ltB_not.2 (by rw [hbs]; omega), cond_false, W.ret]
      rw [GT.wks] at hw
      rw [← hw]
      exact .inr rfl
    | cons b bs2 =>
      have hbl : bs.length = bs1.length + (bs2.length + 1) := by rw [hbs]; simp
      simp only [show ltB (bs1.length : Int) (bs.length : Int) = true from ltB_iff.2 (by omega), cond_true]
      cases hue : u.en
      · simp only [Bool.not_false, cond_true]
        obtain ⟨s1, s2, hfl⟩ := kid_at hb' hbs
        obtain ⟨wb, hwb⟩ := hoA b (by rw [hbs]; simp)
        have hcall := p9s9 (cs := y2) hlen hwb hu s1
        rw [s2, hue] at hcall
        refine W.call hcall ?_
        rw [GT.wks, if_neg (by rw [hue]; simp)] at hw
        have hsz := w_size hwb s1 hlen
        rw [s2] at hsz
        have hu' : (b.wk y2 (pre.length + 1 + (GT.fls bs1).length) u).ok := wk_ok b _ _ hu
        rintro r (rfl | rfl)
        all_goals
          simp only [Sum.elim_inl, Sum.elim_inr]
          refine W.call hsz ?_
          rintro _ rfl
          simp only [W.gd, i64b_eq]
          refine ⟨by omega, by omega, hn _ _ _ _ _ _ _ ⟨_, bs1 ++ [b], bs2, hu', by rw [hbs]; simp, by rw [fls_app]; simp only [GT.fls, List.length_append, List.append_nil]; omega, by simp, rfl, rfl, rfl, rfl, rfl, ?_⟩ (by omega)⟩
          rw [← hw, fls_app]
          simp only [GT.fls, List.length_append, List.append_nil, Nat.add_assoc]
      · simp only [Bool.not_true, cond_false, W.ret]
        rw [wks_en hue] at hw
        rw [← hw]
        exact .inr (by rw [hue])
  · obtain ⟨c1, c2, c3⟩ := cho_ok (cs := cs) hs
    have hco := cho_out cs s
    simp only [show ((kA true) == 2) = true from rfl, cond_true, W.gd, i64b_eq, if_true, e_choice2 hs, Option.bind_some]
    generalize hc : cho cs s = q at c1 c2 c3 hco ⊢
    obtain ⟨c, s'⟩ := q
    simp only at c1 c2 c3 hco ⊢
    rw [ho] at hco
    refine ⟨by omega, by rw [bne_iff_ne]; omega, ?_⟩
    have hmod : Int.tmod c (bs.length : Int) = ((c.toNat % bs.length : Nat) : Int) := by
      obtain ⟨n, rfl⟩ := Int.eq_ofNat_of_zero_le c2
      rfl
    have hkl : c.toNat % bs.length < bs.length := Nat.mod_lt _ (by omega)
    rw [hmod]
    generalize c.toNat % bs.length = k at hkl ⊢
    refine W.lp2 (N := fun N => N) (P := fun v i => ∃ (bs1 bs2 : List GT), bs = bs1 ++ bs2 ∧ v = ((pre.length + 1 + (GT.fls bs1).length : Nat) : Int) ∧ i = (bs1.length : Int) ∧ bs1.length ≤ k) (m := fun _ i => k - i.toNat)
      ⟨[], bs, rfl, by simp [GT.fls], rfl, by simp⟩ ?_
    rintro F v i ⟨bs1, bs2, hbs, rfl, rfl, hk⟩ hn
    cases bs2 with
    | nil => rw [List.append_nil] at hbs; rw [hbs] at hkl; omega
    | cons b bs2 =>
      obtain ⟨s1, s2, hfl⟩ := kid_at hb' hbs
      simp only [s_scope_walker_tree_v577_1]
      by_cases hlt : bs1.length < k
      · obtain ⟨wb, hwb⟩ := hoA b (by rw [hbs]; simp)
        have hsz := w_size hwb s1 hlen
        rw [s2] at hsz
        simp only [show ltB (bs1.length : Int) (k : Int) = true from ltB_iff.2 (by omega), cond_true]
        refine W.call hsz ?_
        rintro _ rfl
        simp only [W.gd, i64b_eq]
        exact ⟨by omega, by omega, hn _ _ ⟨bs1 ++ [b], bs2, by rw [hbs]; simp, by rw [fls_app]; simp only [GT.fls, List.length_append, List.append_nil]; omega, by simp, by simp; omega⟩ (by omega)⟩
      · obtain rfl : k = bs1.length := by omega
        simp only [show ltB (bs1.length : Int) (bs1.length : Int) = false from ltB_irr _, cond_false]
        have hcall := ih b (by rw [hbs]; simp) _ _ s' c1 hco s1
        rw [s2] at hcall
        refine W.bind (W.lift hcall) ?_
        have hwk := wkp_at (cs := cs) (b := b) (bs2 := bs2) bs1 (pre.length + 1) s'
        rw [← hbs] at hwk
        rw [hwk]
        rintro r (⟨rfl, hz⟩ | rfl)
        · simp only [Sum.elim_inl, W.ret]; exact .inl ⟨rfl, hz⟩
        · simp only [Sum.elim_inr, W.ret]; exact .inr rfl
mutual
theorem p5 (hlen : body.length ≤ 1000) : ∀ (t : GT) (w : Int), t.ok w → P5 body cs t
  | .leaf neg v ty o, w, h => p5_leaf
  | .rep lo hi a, w, h => p5_rep h hlen
  | .lst alt bs, w, h => p5_lst h (p5s hlen bs (kA alt) h.2.2.2) hlen
theorem p5s (hlen : body.length ≤ 1000) : ∀ (bs : List GT) (w : Int), GT.oks bs w → ∀ b ∈ bs, P5 body cs b
  | [], w, _, b, hb => by cases hb
  | a :: r, w, h, b, hb => by
    rcases List.mem_cons.1 hb with e | hb
    · rw [e]; exact p5 hlen a w h.1
    · exact p5s hlen r w h.2 b hb
end
end
end
section
open Go Classical
theorem w_aw15 {ι : Type} [Lim ι] (N : ι → Nat) : W (fun i => (s_law15_awake (N i)).bind fun a => some a) (· = true) := by
  simp only [s_law15_awake, Option.bind_some, W.ret]
def s00 : WS := ⟨0, [], false⟩
theorem s00_ok : s00.ok := ⟨by decide, by decide, by simp [s00], fun _ => by simp [s00]⟩
end
end
section
def gb (x : A40 Bool) (k : Nat) : Bool := x.l.getD k false
def gm (x : A40 (A40 Bool)) (j : Nat) : Nat → Bool := gb (x.l.getD j (A40.c false))
def upd {α : Type} (A : Nat → α) (i : Nat) (v : α) : Nat → α := fun k => if k = i then v else A k
def cset {α : Type} (n : Int) (v : α) : Nat → List α → List α
  | _, [] => []
  | j, x :: l => cond (ieq n (Int.ofNat j)) v x :: cset n v (j + 1) l
theorem set_cset {α : Type} (x : A40 α) (n : Int) (v : α) : (A40.set x n v).l = cset n v 0 x.l := rfl
theorem ieq_t {a b : Int} : ieq a b = true ↔ a = b := by simp only [ieq, Bool.and_eq_true, leB_iff]; omega
theorem cset_eq {α : Type} (n : Nat) (v : α) : ∀ (l : List α) (j : Nat), cset (n : Int) v j l = if j ≤ n then l.set (n - j) v else l
  | [], j => by simp [cset]
  | x :: l, j => by
    rw [cset, cset_eq n v l (j + 1)]
    by_cases h : n = j
    · subst h
      rw [show ieq (n : Int) (Int.ofNat n) = true from ieq_t.2 rfl, cond_true, if_neg (by omega), if_pos (by omega), Nat.sub_self, List.set_cons_zero]
    · have hc : ieq (n : Int) (Int.ofNat j) = false := by
        rw [Bool.eq_false_iff]; intro hc; rw [ieq_t] at hc
        have : (Int.ofNat j : Int) = (j : Int) := rfl
        omega
      rw [hc, cond_false]
      by_cases h2 : j ≤ n
      · rw [if_pos (show j + 1 ≤ n by omega), if_pos h2, show n - j = (n - (j + 1)) + 1 by omega, List.set_cons_succ]
      · rw [if_neg (by omega), if_neg h2]
theorem l_set {α : Type} (x : A40 α) (n : Nat) (v : α) : (A40.set x (n : Int) v).l = x.l.set n v := by rw [set_cset, cset_eq, if_pos (Nat.zero_le _), Nat.sub_zero]
theorem l_len {α : Type} (x : A40 α) : x.l.length = 40 := rfl
theorem l_c {α : Type} (v : α) : (A40.c v).l = List.replicate 40 v := rfl
theorem ix_l {α : Type} (x : A40 α) {n : Nat} (h : n < 40) (d : α) : ix x.l (n : Int) = some (x.l.getD n d) := by
  rw [ix_nat', List.getD, List.getElem?_eq_getElem (by rw [l_len]; exact h)]; rfl
theorem gb_ge (x : A40 Bool) {k : Nat} (h : 40 ≤ k) : gb x k = false := by
  rw [gb, List.getD, List.getElem?_eq_none (by rw [l_len]; exact h)]; rfl
theorem getD_setL {α : Type} (l : List α) (n k : Nat) (v d : α) (hn : n < l.length) : (l.set n v).getD k d = if k = n then v else l.getD k d := by
  by_cases h : k = n
  · subst h; simp [List.getD, hn]
  · simp [List.getD, List.getElem?_set, h, Ne.symm h]
theorem gb_set (x : A40 Bool) {n : Nat} (h : n < 40) (v : Bool) : gb (A40.set x (n : Int) v) = upd (gb x) n v := by
  funext k
  rw [gb, l_set, getD_setL _ _ _ _ _ (by rw [l_len]; exact h)]; rfl
theorem gm_set (x : A40 (A40 Bool)) {n : Nat} (h : n < 40) (v : A40 Bool) : gm (A40.set x (n : Int) v) = upd (gm x) n (gb v) := by
  funext k
  rw [gm, l_set, getD_setL _ _ _ _ _ (by rw [l_len]; exact h), upd]
  split <;> rfl
theorem getD_rep {α : Type} (n k : Nat) (v : α) : (List.replicate n v).getD k v = v := by
  simp only [List.getD, List.getElem?_replicate]; split <;> rfl
theorem gb_c : gb (A40.c false) = fun _ => false := by funext k; rw [gb, l_c, getD_rep]
theorem gm_c : gm (A40.c (A40.c false)) = fun _ _ => false := by funext j; rw [gm, l_c, getD_rep, gb_c]
theorem w_both (a b : A40 Bool) : W (fun N => s_scope_set_both N a b) (fun r => gb r = fun k => gb a k && gb b k) := by
  simp only [s_scope_set_both]
  refine W.lp2 (P := fun x y => ∃ n : Nat, x = (n : Int) ∧ n ≤ 40 ∧ gb y = fun k => if k < n then gb a k && gb b k else gb a k) (m := fun x _ => 40 - x.toNat) ⟨0, rfl, by omega, by funext k; simp⟩ ?_
  rintro F x y ⟨n, rfl, hn, hy⟩ next
  simp only [s_scope_set_both_1]
  by_cases h : n < 40
  · have hyn : y.l.getD n false = gb a n := by
      have := congrFun hy n
      simp only [Nat.lt_irrefl, if_false] at this
      exact this
    simp only [show ltB (n : Int) 40 = true from ltB_iff.2 (by omega), show leB 0 (n : Int) = true from leB_iff.2 (by omega), cond_true, gd_true, ix_l y h false, ix_l b h false, Option.bind_some, show i64b ((n : Int) + 1) = true from i64b_eq.2 (by omega)]
    rw [hyn]
    have hstep : ∀ v, v = (gb a n && gb b n) → gb (A40.set y (n : Int) v) = fun k => if k < n + 1 then gb a k && gb b k else gb a k := by
      rintro v rfl
      rw [gb_set y h, hy]
      funext k
      unfold upd
      by_cases hk : k = n
      · subst hk; simp
      · by_cases hk2 : k < n
        · simp [hk, hk2, show k < n + 1 by omega]
        · simp [hk, hk2, show ¬ k < n + 1 by omega]
    cases ha : gb a n
    · rw [ha] at hstep
      exact next _ _ ⟨n + 1, by omega, by omega, hstep false rfl⟩ (by omega)
    · rw [ha] at hstep
      exact next _ _ ⟨n + 1, by omega, by omega, hstep (gb b n) rfl⟩ (by omega)
  · have : n = 40 := by omega
    subst this
    simp only [show ltB ((40 : Nat) : Int) 40 = false from rfl, cond_false, W.ret]
    rw [hy]
    funext k
    split
    · rfl
    · rename_i hk; rw [gb_ge a (by omega)]; rfl
/-- The first Atom of a name. -/
def isA (n : shape_Node) (v : List UInt8) : Bool := n.Kind == 4 && n.Var == v
def idn (v : List UInt8) : List shape_Node → Nat
  | [] => 0
  | n :: l => if isA n v then 0 else idn v l + 1
theorem idn_at {v : List UInt8} {e : shape_Node} {post : List shape_Node} (he : isA e v = true) : ∀ pre : List shape_Node, (∀ n ∈ pre, isA n v = false) → idn v (pre ++ e :: post) = pre.length
  | [], _ => by simp [idn, he]
  | a :: pre, h => by
    rw [List.cons_append, idn, if_neg (by rw [h a (by simp)]; simp), idn_at he pre fun n hn => h n (by simp [hn])]; rfl
theorem idn_lt {v : List UInt8} : ∀ l : List shape_Node, (∃ n ∈ l, isA n v = true) → idn v l < l.length ∧ ∃ n, l[idn v l]? = some n ∧ isA n v = true
  | [], h => by obtain ⟨n, hn, _⟩ := h; cases hn
  | a :: l, h => by
    rw [idn]
    by_cases ha : isA a v = true
    · rw [if_pos ha]; exact ⟨by simp, a, rfl, ha⟩
    · rw [if_neg ha]
      obtain ⟨n, hn, hv⟩ := h
      rcases List.mem_cons.1 hn with rfl | hn
      · exact absurd hv ha
      · obtain ⟨h1, m, h2, h3⟩ := idn_lt l ⟨n, hn, hv⟩
        exact ⟨by simp; omega, m, by simpa using h2, h3⟩
theorem w_id (l : List shape_Node) (v : List UInt8) (hl : l.length ≤ 1000) : W (fun N => s_scope_id N l v) (fun r => (r = -1 ∧ ∀ n ∈ l, isA n v = false) ∨ (r = (idn v l : Int) ∧ ∃ n ∈ l, isA n v = true)) := by
  simp only [s_scope_id]
  refine W.call (f := fun N => s_slices_IndexFunc_shape_Node_v289 N l v) (P := fun r => (r.1 = -1 ∧ ∀ n ∈ l, isA n v = false) ∨ (r.1 = (idn v l : Int) ∧ ∃ n ∈ l, isA n v = true)) ?_ fun r hr => W.ret.2 hr
  simp only [s_slices_IndexFunc_shape_Node_v289]
  refine W.lp2 (P := fun x y => y = v ∧ ∃ pre rest, l = pre ++ rest ∧ x = (pre.length : Int) ∧ ∀ n ∈ pre, isA n v = false) (m := fun x _ => l.length - x.toNat) ⟨rfl, [], l, rfl, rfl, by simp⟩ ?_
  rintro F x y ⟨rfl, pre, rest, h1, rfl, h2⟩ next
  simp only [s_slices_IndexFunc_shape_Node_v289_1]
  cases rest with
  | nil =>
    rw [List.append_nil] at h1
    subst h1
    simp only [show ltB (l.length : Int) (l.length : Int) = false from ltB_not.2 (by omega), cond_false, W.ret]
    exact .inl ⟨trivial, h2⟩
  | cons e rest =>
    have hlt : pre.length < l.length := by rw [h1]; simp
    have hix : ix l (pre.length : Int) = some e := by rw [ix_nat', h1]; simp
    have he : ∀ N, s_scope_id_L1_v579 N e y = some (isA e y, y) := fun N => by
      simp only [s_scope_id_L1_v579, isA]; cases e.Kind == 4 <;> rfl
    simp only [show ltB (pre.length : Int) (l.length : Int) = true from ltB_iff.2 (by omega), cond_true, hix, Option.bind_some, he]
    cases hA : isA e y
    · simp only [cond_false, W.gd, i64b_eq]
      refine ⟨by omega, next _ _ ⟨rfl, pre ++ [e], rest, by rw [h1]; simp, by simp, ?_⟩ (by omega)⟩
      intro n hn
      rcases List.mem_append.1 hn with hn | hn
      · exact h2 n hn
      · rw [List.mem_singleton.1 hn]; exact hA
    · simp only [cond_true, W.ret]
      refine .inr ⟨?_, e, by rw [h1]; simp, hA⟩
      rw [h1, idn_at hA pre h2]
-- What is surely bound behind a tree; what is ahead of a leaf in it; which places are its leaves.
section
variable (body : List shape_Node)
mutual
def GT.fA : GT → (Nat → Bool) → Nat → Bool
  | .leaf neg v _ _, A => if neg then A else upd A (idn v body) true
  | .rep lo _ a, A => if lo = 0 then A else GT.fA a A
  | .lst alt bs, A => if alt then GT.fAl bs A else GT.fAs bs A
def GT.fAs : List GT → (Nat → Bool) → Nat → Bool
  | [], A => A
  | b :: bs, A => GT.fAs bs (GT.fA b A)
def GT.fAl : List GT → (Nat → Bool) → Nat → Bool
  | [], _ => fun _ => true
  | b :: bs, A => fun k => GT.fA b A k && GT.fAl bs A k
end
mutual
def GT.rw : GT → Nat → (Nat → Bool) → Nat → Nat → Bool
  | .leaf .., _, A, _ => A
  | .rep _ _ a, i, A, j => GT.rw a (i + 1) A j
  | .lst alt bs, i, A, j => GT.rws alt bs (i + 1) A j
def GT.rws (alt : Bool) : List GT → Nat → (Nat → Bool) → Nat → Nat → Bool
  | [], _, A, _ => A
  | b :: bs, i, A, j => if j < i + b.fl.length then GT.rw b i A j else GT.rws alt bs (i + b.fl.length) (if alt then A else GT.fA body b A) j
end
mutual
def GT.lf : GT → Nat → Nat → Prop
  | .leaf .., i, j => j = i
  | .rep _ _ a, i, j => GT.lf a (i + 1) j
  | .lst _ bs, i, j => GT.lfs bs (i + 1) j
def GT.lfs : List GT → Nat → Nat → Prop
  | [], _, _ => False
  | b :: bs, i, j => GT.lf b i j ∨ GT.lfs bs (i + b.fl.length) j
end
end
theorem fl_len_pos (t : GT) : 0 < t.fl.length := by obtain ⟨e, r, h⟩ := fl_pos t; rw [h]; simp
mutual
theorem lf_range : ∀ (t : GT) (i j : Nat), t.lf i j → i ≤ j ∧ j < i + t.fl.length
  | .leaf .., i, j, h => by rw [GT.lf] at h; subst h; exact ⟨Nat.le_refl _, Nat.lt_add_of_pos_right (fl_len_pos _)⟩
  | .rep _ _ a, i, j, h => by
    rw [GT.lf] at h
    have := lf_range a _ _ h
    simp only [GT.fl, List.length_cons]; omega
  | .lst _ bs, i, j, h => by
    rw [GT.lf] at h
    have := lfs_range bs _ _ h
    simp only [GT.fl, List.length_cons]; omega
theorem lfs_range : ∀ (bs : List GT) (i j : Nat), GT.lfs bs i j → i ≤ j ∧ j < i + (GT.fls bs).length
  | [], i, j, h => by rw [GT.lfs] at h; exact h.elim
  | b :: bs, i, j, h => by
    rw [GT.lfs] at h
    rw [GT.fls, List.length_append]
    rcases h with h | h
    · have := lf_range b _ _ h; omega
    · have := lfs_range bs _ _ h; omega
end
theorem lfs_app (r : List GT) : ∀ (bs : List GT) (i j : Nat), GT.lfs (bs ++ r) i j ↔ GT.lfs bs i j ∨ GT.lfs r (i + (GT.fls bs).length) j
  | [], i, j => by simp [GT.lfs, GT.fls]
  | b :: bs, i, j => by rw [List.cons_append, GT.lfs, GT.lfs, lfs_app r bs, GT.fls, List.length_append, Nat.add_assoc, or_assoc]
section
variable {body : List shape_Node}
theorem fAs_app (b : GT) : ∀ (bs : List GT) (A : Nat → Bool), GT.fAs body (bs ++ [b]) A = GT.fA body b (GT.fAs body bs A)
  | [], A => by simp [GT.fAs]
  | a :: bs, A => by rw [List.cons_append, GT.fAs, GT.fAs, fAs_app b bs]
theorem fAl_app (b : GT) (A : Nat → Bool) : ∀ (bs : List GT), GT.fAl body (bs ++ [b]) A = fun k => GT.fA body b A k && GT.fAl body bs A k
  | [] => by simp [GT.fAl]
  | a :: bs => by
    rw [List.cons_append, GT.fAl, GT.fAl, fAl_app b A bs]
    funext k
    simp only [Bool.and_left_comm]
theorem rws_pre (alt : Bool) (r : List GT) : ∀ (bs : List GT) (i : Nat) (A : Nat → Bool) (j : Nat), i ≤ j → j < i + (GT.fls bs).length → GT.rws body alt (bs ++ r) i A j = GT.rws body alt bs i A j
  | [], i, A, j, h0, h => by simp only [GT.fls, List.length_nil, Nat.add_zero] at h; omega
  | b :: bs, i, A, j, h0, h => by
    rw [List.cons_append, GT.rws, GT.rws]
    split
    · rfl
    · rw [GT.fls, List.length_append] at h
      exact rws_pre alt r bs _ _ j (by omega) (by omega)
theorem rws_at (alt : Bool) (b : GT) (r : List GT) : ∀ (bs : List GT) (i : Nat) (A : Nat → Bool) (j : Nat), i + (GT.fls bs).length ≤ j → j < i + (GT.fls bs).length + b.fl.length → GT.rws body alt (bs ++ b :: r) i A j = GT.rw body b (i + (GT.fls bs).length) (if alt then A else GT.fAs body bs A) j
  | [], i, A, j, h0, h => by
    simp only [GT.fls, List.length_nil, Nat.add_zero] at h h0 ⊢
    rw [List.nil_append, GT.rws, if_pos h]
    cases alt <;> simp [GT.fAs]
  | c :: bs, i, A, j, h0, h => by
    rw [GT.fls, List.length_append] at h0 h ⊢
    rw [List.cons_append, GT.rws, if_neg (by omega), rws_at alt b r bs _ _ j (by omega) (by omega), Nat.add_assoc]
    cases alt <;> simp [GT.fAs]
/-- What a walk through a tree leaves of what is noted. -/
def FY (t : GT) (i : Nat) (A : Nat → Bool) (Y Y' : Nat → Nat → Bool) : Prop := (∀ j, ¬ (i ≤ j ∧ j < i + t.fl.length) → Y' j = Y j) ∧ ∀ j, t.lf i j → Y' j = t.rw body i A j
def FYs (alt : Bool) (bs : List GT) (i : Nat) (A : Nat → Bool) (Y Y' : Nat → Nat → Bool) : Prop := (∀ j, ¬ (i ≤ j ∧ j < i + (GT.fls bs).length) → Y' j = Y j) ∧ ∀ j, GT.lfs bs i j → Y' j = GT.rws body alt bs i A j
theorem FYs_step {alt : Bool} {b : GT} {bs : List GT} {i : Nat} {A : Nat → Bool} {Y Y' Y2 : Nat → Nat → Bool} (h : FYs (body := body) alt bs i A Y Y') (h2 : FY (body := body) b (i + (GT.fls bs).length) (if alt then A else GT.fAs body bs A) Y' Y2) : FYs (body := body) alt (bs ++ [b]) i A Y Y2 := by
  obtain ⟨p1, p2⟩ := h
  obtain ⟨q1, q2⟩ := h2
  have hl : (GT.fls (bs ++ [b])).length = (GT.fls bs).length + b.fl.length := by rw [fls_len]; simp [GT.fls]
  refine ⟨fun j hj => ?_, fun j hj => ?_⟩
  · rw [hl] at hj
    rw [q1 j (by omega), p1 j (by omega)]
  · rw [lfs_app] at hj
    rcases hj with hj | hj
    · have := lfs_range _ _ _ hj
      rw [q1 j (by omega), p2 j hj, rws_pre alt [b] bs i A j this.1 this.2]
    · rw [GT.lfs, GT.lfs, or_false] at hj
      have := lf_range _ _ _ hj
      rw [q2 j hj, rws_at alt b [] bs i A j this.1 this.2]
def PF (t : GT) : Prop := ∀ (pre post : List shape_Node) (ah : A40 Bool) (Y : A40 (A40 Bool)), body = pre ++ (t.fl ++ post) →
  W (fun N => (SS_scope_flow_tree_v461 N) (pre.length : Int) ah body Y) (fun r => gb r.1 = t.fA body (gb ah) ∧ r.2.1 = ((pre.length + t.fl.length : Nat) : Int) ∧ r.2.2.1 = body ∧ FY (body := body) t pre.length (gb ah) (gm Y) (gm r.2.2.2))
theorem e_leaf (n : shape_Node) (N : Nat) : s_scope_leaf N n = some (lfG n) := by
  simp only [s_scope_leaf, lfG]; cases n.Kind == 4 <;> rfl
theorem pf_leaf (hlen : body.length ≤ 40) {neg : Bool} {v ty : List UInt8} {o : Option TT} : PF (body := body) (.leaf neg v ty o) := by
  intro pre post ah Y hb
  refine W.shift ?_
  show W (fun N => b_scope_flow_tree_v461 N (SS_scope_flow_tree_v461 N) _ _ _ _) _
  have hix := ix_pre (l := body) (pre := pre) (e := ⟨kL neg, 0, 0, 0, v, ty, oT o⟩) (r := post) hb
  have hpl : pre.length < body.length := by rw [hb]; simp [GT.fl]
  have hp : pre.length < 40 := by omega
  have hlf : lfG ⟨kL neg, 0, 0, 0, v, ty, oT o⟩ = true := by cases neg <;> rfl
  simp only [b_scope_flow_tree_v461, hix, Option.bind_some, e_leaf, hlf, cond_true, show leB 0 (pre.length : Int) = true from leB_iff.2 (by omega), show ltB (pre.length : Int) 40 = true from ltB_iff.2 (by omega), gd_true, ix_l Y hp (A40.c false)]
  have hFY : ∀ ah' : A40 Bool, gb ah' = gb ah → FY (body := body) (.leaf neg v ty o) pre.length (gb ah) (gm Y) (gm (A40.set Y (pre.length : Int) ah')) := by
    intro ah' e
    rw [gm_set Y hp, e]
    refine ⟨fun j hj => ?_, fun j hj => ?_⟩
    · simp only [GT.fl, List.length_cons, List.length_nil] at hj
      simp only [upd, if_neg (show j ≠ pre.length by omega)]
    · rw [GT.lf] at hj
      subst hj
      simp only [upd, if_true, GT.rw]
  cases neg
  · simp only [kL, Bool.false_eq_true, if_false, show ((4 : Int) == 4) = true from rfl, cond_true]
    refine W.call (w_id body v (by omega)) ?_
    rintro r (⟨_, h⟩ | ⟨rfl, h⟩)
    · have := h ⟨kL false, 0, 0, 0, v, ty, oT o⟩ (by rw [hb]; simp [GT.fl])
      simp [isA, kL] at this
    · have hid : idn v body < 40 := by have := (idn_lt body h).1; omega
      simp only [show leB 0 (idn v body : Int) = true from leB_iff.2 (by omega), show ltB (idn v body : Int) 40 = true from ltB_iff.2 (by omega), gd_true, ix_l ah hid false, Option.bind_some, W.gd, i64b_eq, W.ret]
      refine ⟨by omega, ?_, by simp [GT.fl], trivial, hFY ah rfl⟩
      rw [gb_set ah hid, GT.fA]; simp
  · simp only [kL, if_true, show ((5 : Int) == 4) = false from rfl, cond_false, W.gd, i64b_eq, W.ret]
    exact ⟨by omega, by rw [GT.fA]; simp, by simp [GT.fl], trivial, hFY ah rfl⟩
theorem e_kids3 {lo hi : Int} (N : Nat) : s_scope_kids N ⟨3, 1, lo, hi, [], [], []⟩ = some 1 := rfl
theorem pf_rep (hlen : body.length ≤ 40) {lo hi : Int} {a : GT} (ih : PF (body := body) a) : PF (body := body) (.rep lo hi a) := by
  intro pre post ah Y hb
  refine W.shift ?_
  show W (fun N => b_scope_flow_tree_v461 N (SS_scope_flow_tree_v461 N) _ _ _ _) _
  have hix := ix_pre (l := body) (pre := pre) (e := ⟨3, 1, lo, hi, [], [], []⟩) (r := a.fl ++ post) (by rw [hb]; simp [GT.fl])
  have hpl : pre.length < body.length := by rw [hb]; simp [GT.fl]
  simp only [b_scope_flow_tree_v461, hix, Option.bind_some, e_leaf, show lfG ⟨3, 1, lo, hi, [], [], []⟩ = false from rfl, cond_false, e_kids3, W.gd, i64b_eq]
  refine ⟨by omega, ?_⟩
  refine W.lp5 (N := fun N => N) (P := fun vn x y3 y4 y13 => y3 = body ∧ ((x = 0 ∧ vn = (pre.length : Int) + 1 ∧ y4 = Y ∧ y13 = ah) ∨ (x = 1 ∧ vn = (pre.length + 1 + a.fl.length : Nat) ∧ gb y13 = a.fA body (gb ah) ∧ FY (body := body) a (pre.length + 1) (gb ah) (gm Y) (gm y4)))) (m := fun _ x _ _ _ => (1 - x).toNat) ⟨rfl, .inl ⟨rfl, rfl, rfl, rfl⟩⟩ ?_
  rintro F vn x y3 y4 y13 ⟨rfl, h⟩ next
  simp only [s_scope_flow_tree_v461_1, show ((3 : Int) == 1) = false from rfl, show ((3 : Int) == 2) = false from rfl, show ((3 : Int) == 3) = true from rfl, cond_true, cond_false]
  rcases h with ⟨rfl, rfl, rfl, rfl⟩ | ⟨rfl, rfl, h1, h2⟩
  · simp only [show ltB 0 1 = true from rfl, cond_true]
    have hcall := ih (pre ++ [⟨3, 1, lo, hi, [], [], []⟩]) post y13 y4 (by rw [hb]; simp [GT.fl])
    have e2 : (pre ++ [(⟨3, 1, lo, hi, [], [], []⟩ : shape_Node)]).length = pre.length + 1 := by simp
    rw [e2] at hcall
    refine W.bind (W.lift hcall) ?_
    rintro r ⟨q1, q2, q3, q4⟩
    simp only [W.gd, i64b_eq]
    exact ⟨by omega, next _ _ _ _ _ ⟨q3, .inr ⟨rfl, q2, q1, q4⟩⟩ (by decide)⟩
  · simp only [show ltB 1 1 = false from rfl, cond_false]
    have hFY : FY (body := y3) (.rep lo hi a) pre.length (gb ah) (gm Y) (gm y4) := by
      refine ⟨fun j hj => h2.1 j ?_, fun j hj => ?_⟩
      · simp only [GT.fl, List.length_cons] at hj; omega
      · rw [GT.lf] at hj; rw [h2.2 j hj, GT.rw]
    by_cases hz : lo = 0
    · subst hz
      simp only [show ((0 : Int) == 0) = true from rfl, cond_true, W.ret]
      exact ⟨by rw [GT.fA, if_pos rfl], by simp [GT.fl]; omega, trivial, hFY⟩
    · simp only [show (lo == 0) = false by simpa using hz, cond_false, W.ret]
      exact ⟨by rw [GT.fA, if_neg hz]; exact h1, by simp [GT.fl]; omega, trivial, hFY⟩
theorem pf_lst (hlen : body.length ≤ 40) {alt : Bool} {bs : List GT} {w : Int} (h : (GT.lst alt bs).ok w) (ih : ∀ b ∈ bs, PF (body := body) b) : PF (body := body) (.lst alt bs) := by
  intro pre post ah Y hb
  refine W.shift ?_
  show W (fun N => b_scope_flow_tree_v461 N (SS_scope_flow_tree_v461 N) _ _ _ _) _
  have hb' : body = pre ++ [(⟨kA alt, (bs.length : Int), 0, 0, [], [], []⟩ : shape_Node)] ++ (GT.fls bs ++ post) := by rw [hb]; simp [GT.fl]
  have hix := ix_pre (l := body) (pre := pre) (e := ⟨kA alt, (bs.length : Int), 0, 0, [], [], []⟩) (r := GT.fls bs ++ post) (by rw [hb]; simp [GT.fl])
  have hpl : pre.length < body.length := by rw [hb]; simp [GT.fl]
  have hk : ∀ N, s_scope_kids N ⟨kA alt, (bs.length : Int), 0, 0, [], [], []⟩ = some (bs.length : Int) := fun N => by cases alt <;> rfl
  obtain ⟨_, hb2, hb40, _⟩ := h
  simp only [b_scope_flow_tree_v461, hix, Option.bind_some, e_leaf, show lfG ⟨kA alt, (bs.length : Int), 0, 0, [], [], []⟩ = false by cases alt <;> rfl, cond_false, hk, W.gd, i64b_eq]
  refine ⟨by omega, ?_⟩
  refine W.lp5 (N := fun N => N) (P := fun vn x y3 y4 y13 => y3 = body ∧ ∃ bs1 bs2, bs = bs1 ++ bs2 ∧ x = (bs1.length : Int) ∧ vn = ((pre.length + 1 + (GT.fls bs1).length : Nat) : Int) ∧ FYs (body := body) alt bs1 (pre.length + 1) (gb ah) (gm Y) (gm y4) ∧ (if alt then (bs1 = [] ∧ y13 = ah) ∨ (bs1 ≠ [] ∧ gb y13 = GT.fAl body bs1 (gb ah)) else gb y13 = GT.fAs body bs1 (gb ah))) (m := fun _ x _ _ _ => bs.length - x.toNat)
    ⟨rfl, [], bs, rfl, rfl, by simp [GT.fls], ⟨fun j _ => rfl, fun j hj => by rw [GT.lfs] at hj; exact hj.elim⟩, by cases alt <;> simp [GT.fAs]⟩ ?_
  rintro F vn x y3 y4 y13 ⟨rfl, bs1, bs2, hbs, rfl, rfl, h1, h2⟩ next
  simp only [s_scope_flow_tree_v461_1]
  cases bs2 with
  | nil =>
    rw [List.append_nil] at hbs
    subst hbs
    simp only [show ltB (bs.length : Int) (bs.length : Int) = false from ltB_not.2 (by omega), cond_false, show ((kA alt) == 3) = false by cases alt <;> rfl, W.ret]
    refine ⟨?_, by simp [GT.fl]; omega, trivial, ⟨fun j hj => h1.1 j ?_, fun j hj => ?_⟩⟩
    · cases alt
      · simp only [Bool.false_eq_true, if_false] at h2; rw [h2, GT.fA]; simp
      · simp only [if_true] at h2
        rcases h2 with ⟨h3, _⟩ | ⟨_, h3⟩
        · rw [h3] at hb2; simp at hb2
        · rw [h3, GT.fA]; simp
    · simp only [GT.fl, List.length_cons] at hj; omega
    · rw [GT.lf] at hj; rw [h1.2 j hj, GT.rw]
  | cons b bs2 =>
    have hbl : bs.length = bs1.length + (bs2.length + 1) := by rw [hbs]; simp
    simp only [show ltB (bs1.length : Int) (bs.length : Int) = true from ltB_iff.2 (by omega), cond_true]
    obtain ⟨s1, s2, hfl⟩ := kid_at hb' hbs
    cases alt
    · simp only [kA, Bool.false_eq_true, if_false, show ((1 : Int) == 1) = true from rfl, show ((1 : Int) == 2) = false from rfl, cond_true, cond_false] at h2 ⊢
      have hcall := ih b (by rw [hbs]; simp) _ _ y13 y4 s1
      rw [s2] at hcall
      refine W.bind (W.lift hcall) ?_
      rintro r ⟨q1, q2, q3, q4⟩
      simp only [W.gd, i64b_eq]
      refine ⟨by omega, next _ _ _ _ _ ⟨q3, bs1 ++ [b], bs2, by rw [hbs]; simp, by simp, ?_, FYs_step h1 (by simp only [Bool.false_eq_true, if_false]; rw [← h2]; exact q4), ?_⟩ (by omega)⟩
      · rw [q2, fls_len]; simp [GT.fls]; omega
      · simp only [Bool.false_eq_true, if_false]; rw [q1, h2, fAs_app]
    · simp only [kA, if_true, show ((2 : Int) == 1) = false from rfl, show ((2 : Int) == 2) = true from rfl, cond_true, cond_false] at h2 ⊢
      have hcall := ih b (by rw [hbs]; simp) _ _ ah y4 s1
      rw [s2] at hcall
      refine W.bind (W.lift hcall) ?_
      rintro r ⟨q1, q2, q3, q4⟩
      have hFY := FYs_step h1 (by simp only [if_true]; exact q4)
      have hvn : r.2.1 = ((pre.length + 1 + (GT.fls (bs1 ++ [b])).length : Nat) : Int) := by rw [q2, fls_len]; simp [GT.fls]; omega
      rcases h2 with ⟨rfl, rfl⟩ | ⟨hne, h2⟩
      · simp only [List.length_nil, show ltB 0 ((0 : Nat) : Int) = false from rfl, cond_false, W.gd, i64b_eq]
        refine ⟨by omega, next _ _ _ _ _ ⟨q3, [] ++ [b], bs2, by rw [hbs]; simp, by simp, hvn, hFY, ?_⟩ (by simp at hbl ⊢; omega)⟩
        simp only [if_true]
        refine .inr ⟨by simp, ?_⟩
        rw [q1]
        funext k; simp [GT.fAl]
      · have hpos : 0 < bs1.length := List.length_pos_iff.2 hne
        simp only [show ltB 0 (bs1.length : Int) = true from ltB_iff.2 (by omega), cond_true]
        refine W.call (N := fun p : Nat × Nat => p.1) (w_both r.1 y13) ?_
        rintro z hz
        simp only [W.gd, i64b_eq]
        refine ⟨by omega, next _ _ _ _ _ ⟨q3, bs1 ++ [b], bs2, by rw [hbs]; simp, by simp, hvn, hFY, ?_⟩ (by omega)⟩
        simp only [if_true]
        refine .inr ⟨by simp, ?_⟩
        rw [hz, q1, h2, fAl_app]
mutual
theorem pf (hlen : body.length ≤ 40) : ∀ (t : GT) (w : Int), t.ok w → PF (body := body) t
  | .leaf neg v ty o, w, h => pf_leaf hlen
  | .rep lo hi a, w, h => pf_rep hlen (pf hlen a 3 h.2)
  | .lst alt bs, w, h => pf_lst hlen h (pfs hlen bs (kA alt) h.2.2.2)
theorem pfs (hlen : body.length ≤ 40) : ∀ (bs : List GT) (w : Int), GT.oks bs w → ∀ b ∈ bs, PF (body := body) b
  | [], w, _, b, hb => by cases hb
  | a :: r, w, h, b, hb => by
    rcases List.mem_cons.1 hb with e | hb
    · rw [e]; exact pf hlen a w h.1
    · exact pfs hlen r w h.2 b hb
end
end
end
section
mutual
def GT.hN : GT → Bool
  | .leaf .. => false
  | .rep lo _ a => GT.hN a || lo == 0
  | .lst alt bs => if alt then GT.hNo bs else GT.hNs bs
def GT.hNs : List GT → Bool
  | [] => true
  | b :: bs => GT.hN b && GT.hNs bs
def GT.hNo : List GT → Bool
  | [] => false
  | b :: bs => GT.hN b || GT.hNo bs
end
mutual
def GT.hF : GT → Nat → Nat → Bool
  | .leaf .., i => upd (fun _ => false) i true
  | .rep _ _ a, i => GT.hF a (i + 1)
  | .lst alt bs, i => GT.hFs alt bs (i + 1)
def GT.hFs (alt : Bool) : List GT → Nat → Nat → Bool
  | [], _ => fun _ => false
  | b :: bs, i => fun k => GT.hF b i k || ((alt || b.hN) && GT.hFs alt bs (i + b.fl.length) k)
end
end
section
section
variable (body : List shape_Node)
/-- An Atom of a name was passed. -/
def psd (out : List Int) (v : List UInt8) : Prop := ∃ j : Nat, (j : Int) ∈ out ∧ ∃ n, body[j]? = some n ∧ isA n v = true
def inv (A : Nat → Bool) (out : List Int) : Prop := ∀ k, A k = true → ∃ n, body[k]? = some n ∧ psd body out n.Var
def Good (L : Nat → Prop) (R : Nat → Nat → Bool) (s s' : WS) : Prop := ∃ new, s'.out = s.out ++ new ∧ ∀ p j q, new = p ++ j :: q → ∃ jn : Nat, j = (jn : Int) ∧ L jn ∧ inv body (R jn) (s.out ++ p)
end
section
variable {body : List shape_Node} {cs : List Int}
theorem psd_mono {out new : List Int} {v : List UInt8} (h : psd body out v) : psd body (out ++ new) v := by
  obtain ⟨j, h1, h2⟩ := h
  exact ⟨j, List.mem_append_left _ h1, h2⟩
theorem inv_mono {A : Nat → Bool} {out : List Int} (h : inv body A out) (new : List Int) : inv body A (out ++ new) := fun k hk => by
  obtain ⟨n, h1, h2⟩ := h k hk
  exact ⟨n, h1, psd_mono h2⟩
theorem Good.refl {L R} {s s' : WS} (h : s'.out = s.out) : Good body L R s s' := ⟨[], by rw [h, List.append_nil], fun p j q h => by cases p <;> cases h⟩
theorem Good.imp {L L' : Nat → Prop} {R R' : Nat → Nat → Bool} {s s' : WS} (h : Good body L R s s') (hi : ∀ j, L j → L' j ∧ R' j = R j) : Good body L' R' s s' := by
  obtain ⟨new, h1, h2⟩ := h
  refine ⟨new, h1, fun p j q h => ?_⟩
  obtain ⟨jn, q1, q2, q3⟩ := h2 p j q h
  obtain ⟨r1, r2⟩ := hi jn q2
  exact ⟨jn, q1, r1, by rw [r2]; exact q3⟩
theorem Good.from {L R} {s0 s s' : WS} (h : Good body L R s s') (h0 : s0.out = s.out) : Good body L R s0 s' := by
  obtain ⟨new, h1, h2⟩ := h
  exact ⟨new, by rw [h0]; exact h1, by rw [h0]; exact h2⟩
theorem Good.trans {L R} {s s1 s2 : WS} (h : Good body L R s s1) (h' : Good body L R s1 s2) : Good body L R s s2 := by
  obtain ⟨n1, a1, a2⟩ := h
  obtain ⟨n2, b1, b2⟩ := h'
  refine ⟨n1 ++ n2, by rw [b1, a1, List.append_assoc], fun p j q e => ?_⟩
  rcases List.append_eq_append_iff.1 e with ⟨r, e1, e2⟩ | ⟨r, e1, e2⟩
  · obtain ⟨jn, q1, q2, q3⟩ := b2 r j q e2
    refine ⟨jn, q1, q2, ?_⟩
    rw [e1, ← List.append_assoc, ← a1]; exact q3
  · cases r with
    | nil =>
      rw [List.append_nil] at e1
      obtain ⟨jn, q1, q2, q3⟩ := b2 [] j q (by simpa using e2.symm)
      refine ⟨jn, q1, q2, ?_⟩
      rw [List.append_nil, a1, e1] at q3; exact q3
    | cons x r =>
      rw [List.cons_append] at e2
      cases e2
      exact a2 p j r e1
theorem inv_of {L R} {A : Nat → Bool} {s s' : WS} (h : Good body L R s s') (hi : inv body A s.out) : inv body A s'.out := by
  obtain ⟨new, h1, _⟩ := h
  rw [h1]; exact inv_mono hi new
theorem wk_en {s : WS} (h : s.en = true) (t : GT) (i : Nat) : t.wk cs i s = s := by cases t <;> rw [GT.wk, if_pos h]
def SU (body : List shape_Node) (cs : List Int) (t : GT) : Prop := ∀ (pre post : List shape_Node) (A : Nat → Bool) (s : WS), body = pre ++ (t.fl ++ post) → s.ok → inv body A s.out →
  Good body (t.lf pre.length) (t.rw body pre.length A) s (t.wk cs pre.length s) ∧ ((t.wk cs pre.length s).en = false → inv body (t.fA body A) (t.wk cs pre.length s).out)
theorem su_leaf {neg : Bool} {v ty : List UInt8} {o : Option TT} : SU body cs (.leaf neg v ty o) := by
  intro pre post A s hb hs hi
  cases he : s.en
  · have hw : (GT.leaf neg v ty o).wk cs pre.length s = ⟨s.tk, s.out ++ [(pre.length : Int)], ((s.out ++ [(pre.length : Int)]).length : Int) == 100⟩ := by rw [GT.wk, if_neg (by rw [he]; simp)]
    rw [hw]
    have hn : body[pre.length]? = some ⟨kL neg, 0, 0, 0, v, ty, oT o⟩ := by rw [hb]; simp [GT.fl]
    refine ⟨⟨[(pre.length : Int)], rfl, fun p j q e => ?_⟩, fun _ => ?_⟩
    · cases p with
      | nil =>
        simp only [List.nil_append, List.cons.injEq] at e
        exact ⟨pre.length, e.1.symm, by rw [GT.lf], by rw [GT.rw, List.append_nil]; exact hi⟩
      | cons x p => simp at e
    · rw [GT.fA]
      cases neg
      · simp only [Bool.false_eq_true, if_false]
        intro k hk
        by_cases hk2 : k = idn v body
        · have hA : isA ⟨kL false, 0, 0, 0, v, ty, oT o⟩ v = true := by simp [isA, kL]
          have hmem : (⟨kL false, 0, 0, 0, v, ty, oT o⟩ : shape_Node) ∈ body := List.mem_of_getElem? hn
          obtain ⟨h1, n, h2, h3⟩ := idn_lt (v := v) body ⟨_, hmem, hA⟩
          subst hk2
          refine ⟨n, h2, pre.length, by simp, _, hn, ?_⟩
          simp only [isA, Bool.and_eq_true, beq_iff_eq] at h3
          rw [h3.2]; exact hA
        · rw [upd, if_neg hk2] at hk
          obtain ⟨n, h1, h2⟩ := hi k hk
          exact ⟨n, h1, psd_mono h2⟩
      · simp only [if_true]; exact inv_mono hi _
  · rw [wk_en he]
    exact ⟨Good.refl rfl, fun h => by rw [he] at h; cases h⟩
theorem su_iter {a : GT} {i : Nat} {A : Nat → Bool} {L : Nat → Prop} {R : Nat → Nat → Bool} (hf : ∀ s : WS, s.ok → inv body A s.out → Good body L R s (a.wk cs i s) ∧ ((a.wk cs i s).en = false → inv body (a.fA body A) (a.wk cs i s).out)) :
    ∀ (n : Nat) (u : WS), u.ok → inv body A u.out → Good body L R u (iterW (fun s => a.wk cs i s) n u) ∧ ((iterW (fun s => a.wk cs i s) n u).en = false → n = 0 ∨ inv body (a.fA body A) (iterW (fun s => a.wk cs i s) n u).out)
  | 0, u, hu, hi => ⟨Good.refl rfl, fun _ => .inl rfl⟩
  | n + 1, u, hu, hi => by
    rw [iterW]
    cases he : u.en
    · simp only [Bool.false_eq_true, if_false]
      obtain ⟨g1, g2⟩ := hf u hu hi
      obtain ⟨g3, g4⟩ := su_iter hf n _ (wk_ok a i u hu) (inv_of g1 hi)
      refine ⟨g1.trans g3, fun h => .inr ?_⟩
      rcases g4 h with rfl | h5
      · rw [iterW] at h ⊢; exact g2 h
      · exact h5
    · simp only [if_true]
      exact ⟨Good.refl rfl, fun h => by rw [he] at h; cases h⟩
theorem su_rep {lo hi : Int} {a : GT} {w : Int} (h : (GT.rep lo hi a).ok w) (ih : SU body cs a) : SU body cs (.rep lo hi a) := by
  intro pre post A s hb hs hi'
  cases he : s.en
  rotate_left
  · rw [wk_en he]; exact ⟨Good.refl rfl, fun h => by rw [he] at h; cases h⟩
  rw [GT.wk, if_neg (by rw [he]; simp)]
  obtain ⟨c1, c2, c3⟩ := cho_ok (cs := cs) hs
  have co := cho_out cs s
  obtain ⟨⟨l1, l2, l3, l4, l5, l6⟩, _⟩ := h
  have e2 : (pre ++ [(⟨3, 1, lo, hi, [], [], []⟩ : shape_Node)]).length = pre.length + 1 := by simp
  have hf : ∀ s : WS, s.ok → inv body A s.out → Good body (a.lf (pre.length + 1)) (a.rw body (pre.length + 1) A) s (a.wk cs (pre.length + 1) s) ∧ ((a.wk cs (pre.length + 1) s).en = false → inv body (a.fA body A) (a.wk cs (pre.length + 1) s).out) := fun s hs hq => by
    have := ih (pre ++ [⟨3, 1, lo, hi, [], [], []⟩]) post A s (by rw [hb]; simp [GT.fl]) hs hq
    rwa [e2] at this
  obtain ⟨g1, g2⟩ := su_iter hf (timG lo hi (cho cs s).1).toNat (cho cs s).2 c1 (by rw [co]; exact hi')
  refine ⟨(g1.from co.symm).imp fun j hj => ⟨by rw [GT.lf]; exact hj, by rw [GT.rw]⟩, fun hen => ?_⟩
  rw [GT.fA]
  by_cases hz : lo = 0
  · rw [if_pos hz]; exact inv_of g1 (by rw [co]; exact hi')
  · rw [if_neg hz]
    rcases g2 hen with h0 | h0
    · exfalso
      revert h0; unfold timG; split <;> omega
    · exact h0
theorem fAl_mem {b : GT} {A : Nat → Bool} {k : Nat} : ∀ {bs : List GT}, b ∈ bs → GT.fAl body bs A k = true → b.fA body A k = true
  | a :: bs, hb, h => by
    simp only [GT.fAl, Bool.and_eq_true] at h
    rcases List.mem_cons.1 hb with rfl | hb
    · exact h.1
    · exact fAl_mem hb h.2
theorem su_seq : ∀ (bs : List GT) (_ : ∀ b ∈ bs, SU body cs b) (pre post : List shape_Node) (A : Nat → Bool) (s : WS), body = pre ++ (GT.fls bs ++ post) → s.ok → inv body A s.out →
    Good body (GT.lfs bs pre.length) (GT.rws body false bs pre.length A) s (GT.wks cs bs pre.length s) ∧ ((GT.wks cs bs pre.length s).en = false → inv body (GT.fAs body bs A) (GT.wks cs bs pre.length s).out)
  | [], _, pre, post, A, s, hb, hs, hi => by rw [GT.wks, GT.fAs]; exact ⟨Good.refl rfl, fun _ => hi⟩
  | b :: bs, ih, pre, post, A, s, hb, hs, hi => by
    rw [GT.wks]
    cases he : s.en
    rotate_left
    · simp only [if_true]; exact ⟨Good.refl rfl, fun h => by rw [he] at h; cases h⟩
    simp only [Bool.false_eq_true, if_false]
    rw [GT.fls, List.append_assoc] at hb
    obtain ⟨g1, g2⟩ := ih b (by simp) pre (GT.fls bs ++ post) A s hb hs hi
    have G1 : Good body (GT.lfs (b :: bs) pre.length) (GT.rws body false (b :: bs) pre.length A) s (b.wk cs pre.length s) := g1.imp fun j hj => ⟨by rw [GT.lfs]; exact .inl hj, by rw [GT.rws, if_pos (lf_range _ _ _ hj).2]⟩
    cases he1 : (b.wk cs pre.length s).en
    · obtain ⟨g3, g4⟩ := su_seq bs (fun x hx => ih x (by simp [hx])) (pre ++ b.fl) post (b.fA body A) _ (by rw [hb]; simp) (wk_ok b pre.length s hs) (g2 he1)
      rw [List.length_append] at g3 g4
      refine ⟨G1.trans (g3.imp fun j hj => ⟨by rw [GT.lfs]; exact .inr hj, ?_⟩), fun h => by rw [GT.fAs]; exact g4 h⟩
      have := (lfs_range _ _ _ hj).1
      rw [GT.rws, if_neg (by omega)]; simp
    · rw [wks_en he1]
      exact ⟨G1, fun h => by rw [he1] at h; cases h⟩
theorem su_lst {alt : Bool} {bs : List GT} {w : Int} (h : (GT.lst alt bs).ok w) (ih : ∀ b ∈ bs, SU body cs b) : SU body cs (.lst alt bs) := by
  intro pre post A s hb hs hi
  cases he : s.en
  rotate_left
  · rw [wk_en he]; exact ⟨Good.refl rfl, fun h => by rw [he] at h; cases h⟩
  rw [GT.wk, if_neg (by rw [he]; simp)]
  have hb' : body = pre ++ [(⟨kA alt, (bs.length : Int), 0, 0, [], [], []⟩ : shape_Node)] ++ (GT.fls bs ++ post) := by rw [hb]; simp [GT.fl]
  have e2 : (pre ++ [(⟨kA alt, (bs.length : Int), 0, 0, [], [], []⟩ : shape_Node)]).length = pre.length + 1 := by simp
  cases alt
  · simp only [Bool.false_eq_true, if_false]
    obtain ⟨g1, g2⟩ := su_seq bs ih (pre ++ [⟨kA false, (bs.length : Int), 0, 0, [], [], []⟩]) post A s hb' hs hi
    rw [e2] at g1 g2
    exact ⟨g1.imp fun j hj => ⟨by rw [GT.lf]; exact hj, by rw [GT.rw]⟩, fun h => by rw [GT.fA]; simpa using g2 h⟩
  · simp only [if_true]
    obtain ⟨_, k1, k2, k3⟩ := h
    obtain ⟨c1, c2, c3⟩ := cho_ok (cs := cs) hs
    have co := cho_out cs s
    have hkl : (cho cs s).1.toNat % bs.length < bs.length := Nat.mod_lt _ (by omega)
    generalize (cho cs s).1.toNat % bs.length = k at hkl ⊢
    obtain ⟨bs1, b, bs2, hbs, rfl⟩ : ∃ bs1 b bs2, bs = bs1 ++ b :: bs2 ∧ k = bs1.length := ⟨bs.take k, bs[k], bs.drop (k + 1), by simp, by simp; omega⟩
    obtain ⟨s1, s2, hfl⟩ := kid_at hb' hbs
    have hbm : b ∈ bs := by rw [hbs]; simp
    have hwk := wkp_at (cs := cs) (b := b) (bs2 := bs2) bs1 (pre.length + 1) (cho cs s).2
    rw [← hbs] at hwk
    rw [hwk]
    have e3 : (pre ++ [(⟨kA true, (bs.length : Int), 0, 0, [], [], []⟩ : shape_Node)] ++ GT.fls bs1).length = pre.length + 1 + (GT.fls bs1).length := by rw [List.length_append, e2]
    obtain ⟨g1, g2⟩ := ih b hbm _ _ A (cho cs s).2 s1 c1 (by rw [co]; exact hi)
    rw [e3] at g1 g2
    refine ⟨(g1.from co.symm).imp fun j hj => ⟨?_, ?_⟩, fun h => ?_⟩
    · rw [GT.lf, hbs, lfs_app, GT.lfs]; exact .inr (.inl hj)
    · have := lf_range _ _ _ hj
      rw [GT.rw, hbs, rws_at true b bs2 bs1 _ A j this.1 this.2]; simp
    · rw [GT.fA, if_pos rfl]
      intro k hk
      exact g2 h k (fAl_mem hbm hk)
mutual
theorem su : ∀ (t : GT) (w : Int), t.ok w → SU body cs t
  | .leaf neg v ty o, w, h => su_leaf
  | .rep lo hi a, w, h => su_rep h (su a 3 h.2)
  | .lst alt bs, w, h => su_lst h (sus bs (kA alt) h.2.2.2)
theorem sus : ∀ (bs : List GT) (w : Int), GT.oks bs w → ∀ b ∈ bs, SU body cs b
  | [], w, _, b, hb => by cases hb
  | a :: r, w, h, b, hb => by
    rcases List.mem_cons.1 hb with e | hb
    · rw [e]; exact su a w h.1
    · exact sus r w h.2 b hb
end
/-- Which leaf comes first. -/
def Fst (F : Nat → Bool) (Z : Prop) (s s' : WS) : Prop := ∃ new, s'.out = s.out ++ new ∧ (∀ j q, new = j :: q → ∃ jn : Nat, j = (jn : Int) ∧ F jn = true) ∧ (new = [] → s'.en = false → Z)
theorem Fst.refl {F Z} {s s' : WS} (h : s'.out = s.out) (hz : s'.en = false → Z) : Fst F Z s s' := ⟨[], by rw [h, List.append_nil], fun j q h => (by cases h), fun _ => hz⟩
theorem Fst.imp {F F' Z Z'} {s s' : WS} (h : Fst F Z s s') (h1 : ∀ k, F k = true → F' k = true) (h2 : Z → Z') : Fst F' Z' s s' := by
  obtain ⟨new, a, b, c⟩ := h
  exact ⟨new, a, fun j q e => (by obtain ⟨jn, p1, p2⟩ := b j q e; exact ⟨jn, p1, h1 _ p2⟩), fun e1 e2 => h2 (c e1 e2)⟩
theorem Fst.from {F Z} {s0 s s' : WS} (h : Fst F Z s s') (h0 : s0.out = s.out) : Fst F Z s0 s' := by
  obtain ⟨new, a, b, c⟩ := h
  exact ⟨new, by rw [h0]; exact a, b, c⟩
/-- One walk, then another one, that matters where the first one passes nothing. -/
theorem Fst.trans {F Z F' Z'} {s s1 s2 : WS} (h : Fst F Z s s1) (h1 : ∀ k, F k = true → F' k = true) (h2 : ∃ new, s2.out = s1.out ++ new) (h3 : s1.en = true → s2 = s1) (h4 : s1.en = false → Z → Fst F' Z' s1 s2) : Fst F' Z' s s2 := by
  obtain ⟨n1, a, b, c⟩ := h
  obtain ⟨n2, a2⟩ := h2
  cases n1 with
  | cons x n1 =>
    refine ⟨(x :: n1) ++ n2, by rw [a2, a, List.append_assoc], fun j q e => ?_, fun e => (by cases e)⟩
    simp only [List.cons_append, List.cons.injEq] at e
    obtain ⟨jn, p1, p2⟩ := b x n1 rfl
    exact ⟨jn, by rw [← e.1]; exact p1, h1 _ p2⟩
  | nil =>
    rw [List.append_nil] at a
    cases he : s1.en
    · obtain ⟨m, q1, q2, q3⟩ := h4 he (c rfl he)
      exact ⟨m, by rw [q1, a], q2, q3⟩
    · have := h3 he
      exact Fst.refl (by rw [this, a]) (fun h => by rw [this, he] at h; cases h)
mutual
theorem wk_gr : ∀ (t : GT) (i : Nat) (s : WS), ∃ new, (t.wk cs i s).out = s.out ++ new
  | .leaf neg v ty o, i, s => by
    rw [GT.wk]; split
    · exact ⟨[], by simp⟩
    · exact ⟨[(i : Int)], rfl⟩
  | .rep lo hi a, i, s => by
    rw [GT.wk]; split
    · exact ⟨[], by simp⟩
    · have key : ∀ (n : Nat) (u : WS), ∃ new, (iterW (fun s => a.wk cs (i + 1) s) n u).out = u.out ++ new := by
        intro n
        induction n with
        | zero => intro u; exact ⟨[], by simp [iterW]⟩
        | succ n ihn =>
          intro u
          rw [iterW]; split
          · exact ⟨[], by simp⟩
          · obtain ⟨n1, e1⟩ := wk_gr a (i + 1) u
            obtain ⟨n2, e2⟩ := ihn (a.wk cs (i + 1) u)
            exact ⟨n1 ++ n2, by rw [e2, e1, List.append_assoc]⟩
      obtain ⟨n1, e1⟩ := key (timG lo hi (cho cs s).1).toNat (cho cs s).2
      exact ⟨n1, by rw [e1, cho_out]⟩
  | .lst alt bs, i, s => by
    rw [GT.wk]; split
    · exact ⟨[], by simp⟩
    · split
      · obtain ⟨n1, e1⟩ := wkp_gr bs ((cho cs s).1.toNat % bs.length) (i + 1) (cho cs s).2
        exact ⟨n1, by rw [e1, cho_out]⟩
      · exact wks_gr bs (i + 1) s
theorem wkp_gr : ∀ (bs : List GT) (k i : Nat) (s : WS), ∃ new, (GT.wkp cs bs k i s).out = s.out ++ new
  | [], k, i, s => ⟨[], by rw [GT.wkp]; simp⟩
  | b :: bs, k, i, s => by
    rw [GT.wkp]; split
    · exact wk_gr b i s
    · exact wkp_gr bs _ _ s
theorem wks_gr : ∀ (bs : List GT) (i : Nat) (s : WS), ∃ new, (GT.wks cs bs i s).out = s.out ++ new
  | [], i, s => ⟨[], by rw [GT.wks]; simp⟩
  | b :: bs, i, s => by
    rw [GT.wks]; split
    · exact ⟨[], by simp⟩
    · obtain ⟨n1, e1⟩ := wk_gr b i s
      obtain ⟨n2, e2⟩ := wks_gr bs (i + b.fl.length) (b.wk cs i s)
      exact ⟨n1 ++ n2, by rw [e2, e1, List.append_assoc]⟩
end
def HD (cs : List Int) (t : GT) : Prop := ∀ (i : Nat) (s : WS), s.ok → Fst (t.hF i) (t.hN = true) s (t.wk cs i s)
theorem iterW_gr {a : GT} {i : Nat} : ∀ (n : Nat) (u : WS), ∃ new, (iterW (fun s => a.wk cs i s) n u).out = u.out ++ new
  | 0, u => ⟨[], by simp [iterW]⟩
  | n + 1, u => by
    rw [iterW]; split
    · exact ⟨[], by simp⟩
    · obtain ⟨n1, e1⟩ := wk_gr (cs := cs) a i u
      obtain ⟨n2, e2⟩ := iterW_gr n (a.wk cs i u)
      exact ⟨n1 ++ n2, by rw [e2, e1, List.append_assoc]⟩
theorem hd_iter {a : GT} {i : Nat} (ih : HD cs a) : ∀ (n : Nat) (u : WS), u.ok → Fst (a.hF i) (n = 0 ∨ a.hN = true) u (iterW (fun s => a.wk cs i s) n u)
  | 0, u, hu => Fst.refl rfl fun _ => .inl rfl
  | n + 1, u, hu => by
    rw [iterW]
    cases he : u.en
    · simp only [Bool.false_eq_true, if_false]
      exact (ih i u hu).trans (fun _ h => h) (iterW_gr n _) (fun h => iterW_en h n) fun _ hz => (hd_iter ih n _ (wk_ok a i u hu)).imp (fun _ h => h) fun _ => .inr hz
    · simp only [if_true]
      exact Fst.refl rfl fun h => by rw [he] at h; cases h
theorem hd_rep {lo hi : Int} {a : GT} {w : Int} (h : (GT.rep lo hi a).ok w) (ih : HD cs a) : HD cs (.rep lo hi a) := by
  intro i s hs
  cases he : s.en
  rotate_left
  · rw [wk_en he]; exact Fst.refl rfl fun h => by rw [he] at h; cases h
  rw [GT.wk, if_neg (by rw [he]; simp)]
  obtain ⟨c1, c2, c3⟩ := cho_ok (cs := cs) hs
  obtain ⟨⟨l1, l2, l3, l4, l5, l6⟩, _⟩ := h
  refine ((hd_iter (i := i + 1) ih (timG lo hi (cho cs s).1).toNat (cho cs s).2 c1).from (cho_out cs s).symm).imp (fun k hk => by rw [GT.hF]; exact hk) ?_
  rw [GT.hN]
  rintro (h0 | h0)
  · have : lo = 0 := by
      revert h0; unfold timG; split <;> omega
    rw [this]; simp
  · rw [h0]; rfl
theorem hFs_mem {alt : Bool} {b : GT} {bs2 : List GT} {k : Nat} (h : alt = true) : ∀ (bs1 : List GT) (i : Nat), b.hF (i + (GT.fls bs1).length) k = true → GT.hFs alt (bs1 ++ b :: bs2) i k = true
  | [], i, hk => by simp only [GT.fls, List.length_nil, Nat.add_zero] at hk; simp [GT.hFs, hk]
  | a :: bs1, i, hk => by
    rw [GT.fls, List.length_append, ← Nat.add_assoc] at hk
    have := hFs_mem (bs2 := bs2) h bs1 _ hk
    rw [h] at this ⊢
    simp only [List.cons_append, GT.hFs, this]; simp
theorem hNo_mem {b : GT} (hb : b.hN = true) : ∀ {bs : List GT}, b ∈ bs → GT.hNo bs = true
  | a :: bs, h => by
    rw [GT.hNo]
    rcases List.mem_cons.1 h with rfl | h
    · rw [hb]; rfl
    · rw [hNo_mem hb h]; simp
theorem hd_seq : ∀ (bs : List GT) (_ : ∀ b ∈ bs, HD cs b) (i : Nat) (s : WS), s.ok → Fst (GT.hFs false bs i) (GT.hNs bs = true) s (GT.wks cs bs i s)
  | [], _, i, s, hs => by rw [GT.wks]; exact Fst.refl rfl fun _ => by rw [GT.hNs]
  | b :: bs, ih, i, s, hs => by
    rw [GT.wks]
    cases he : s.en
    rotate_left
    · simp only [if_true]; exact Fst.refl rfl fun h => by rw [he] at h; cases h
    simp only [Bool.false_eq_true, if_false]
    refine (ih b (by simp) i s hs).trans (fun k hk => by simp only [GT.hFs, hk, Bool.true_or]) (wks_gr bs _ _) (fun h => wks_en h _ _) fun _ hz => (hd_seq bs (fun x hx => ih x (by simp [hx])) (i + b.fl.length) _ (wk_ok b i s hs)).imp (fun k hk => ?_) fun h => ?_
    · simp only [GT.hFs, hk, hz]; simp
    · rw [GT.hNs, hz, h]; rfl
theorem hd_lst {alt : Bool} {bs : List GT} {w : Int} (h : (GT.lst alt bs).ok w) (ih : ∀ b ∈ bs, HD cs b) : HD cs (.lst alt bs) := by
  intro i s hs
  cases he : s.en
  rotate_left
  · rw [wk_en he]; exact Fst.refl rfl fun h => by rw [he] at h; cases h
  rw [GT.wk, if_neg (by rw [he]; simp)]
  cases alt
  · simp only [Bool.false_eq_true, if_false]
    exact (hd_seq bs ih (i + 1) s hs).imp (fun k hk => by rw [GT.hF]; exact hk) fun h => by rw [GT.hN]; simpa using h
  · simp only [if_true]
    obtain ⟨_, k1, k2, k3⟩ := h
    obtain ⟨c1, c2, c3⟩ := cho_ok (cs := cs) hs
    have hkl : (cho cs s).1.toNat % bs.length < bs.length := Nat.mod_lt _ (by omega)
    generalize (cho cs s).1.toNat % bs.length = k at hkl ⊢
    obtain ⟨bs1, b, bs2, hbs, rfl⟩ : ∃ bs1 b bs2, bs = bs1 ++ b :: bs2 ∧ k = bs1.length := ⟨bs.take k, bs[k], bs.drop (k + 1), by simp, by simp; omega⟩
    have hbm : b ∈ bs := by rw [hbs]; simp
    have hwk := wkp_at (cs := cs) (b := b) (bs2 := bs2) bs1 (i + 1) (cho cs s).2
    rw [← hbs] at hwk
    rw [hwk]
    refine ((ih b hbm _ _ c1).from (cho_out cs s).symm).imp (fun k hk => ?_) fun h => ?_
    · rw [GT.hF, hbs]; exact hFs_mem rfl bs1 _ hk
    · rw [GT.hN, if_pos rfl]; exact hNo_mem h hbm
theorem hd_leaf {neg : Bool} {v ty : List UInt8} {o : Option TT} : HD cs (.leaf neg v ty o) := by
  intro i s hs
  cases he : s.en
  · rw [GT.wk, if_neg (by rw [he]; simp)]
    refine ⟨[(i : Int)], rfl, fun j q e => ?_, fun e => (by cases e)⟩
    simp only [List.cons.injEq] at e
    exact ⟨i, e.1.symm, by rw [GT.hF]; simp [upd]⟩
  · rw [wk_en he]; exact Fst.refl rfl fun h => by rw [he] at h; cases h
mutual
theorem hd : ∀ (t : GT) (w : Int), t.ok w → HD cs t
  | .leaf neg v ty o, w, h => hd_leaf
  | .rep lo hi a, w, h => hd_rep h (hd a 3 h.2)
  | .lst alt bs, w, h => hd_lst h (hds bs (kA alt) h.2.2.2)
theorem hds : ∀ (bs : List GT) (w : Int), GT.oks bs w → ∀ b ∈ bs, HD cs b
  | [], w, _, b, hb => by cases hb
  | a :: r, w, h, b, hb => by
    rcases List.mem_cons.1 hb with e | hb
    · rw [e]; exact hd a w h.1
    · exact hds r w h.2 b hb
end
end
end
section
def A0 : Nat → Bool := fun _ => false
def Y0 : Nat → Nat → Bool := fun _ _ => false
theorem w_sure {t : GT} (ht : t.ok 0) {body : List shape_Node} (hb : body = t.fl) (hlen : body.length ≤ 40) : W (fun N => s_scope_sure N body) (fun r => r.1 = body ∧ FY (body := body) t 0 A0 Y0 (gm r.2)) := by
  simp only [s_scope_sure]
  have h := pf (body := body) hlen t 0 ht [] [] (A40.c false) (A40.c (A40.c false)) (by rw [hb]; simp)
  refine W.call (f := fun N => (SS_scope_flow_tree_v461 N) 0 (A40.c false) body (A40.c (A40.c false))) (N := fun N => N) h ?_
  rintro r ⟨_, _, h3, h4⟩
  refine W.ret.2 ⟨h3, ?_⟩
  rw [gb_c, gm_c] at h4
  exact h4
theorem lfG4 {n : shape_Node} (h : lfG n = true) : 4 ≤ n.Kind := by
  simp only [lfG, Bool.or_eq_true, beq_iff_eq] at h; omega
end
section
open Go Classical
mutual
theorem lf_at : ∀ (t : GT) (pre post : List shape_Node) (body : List shape_Node) (j : Nat), body = pre ++ (t.fl ++ post) → t.lf pre.length j → ∃ n, body[j]? = some n ∧ lfG n = true
  | .leaf neg v ty o, pre, post, body, j, hb, h => by
    rw [GT.lf] at h
    subst h
    exact ⟨⟨kL neg, 0, 0, 0, v, ty, oT o⟩, by rw [hb]; simp [GT.fl], by cases neg <;> rfl⟩
  | .rep lo hi a, pre, post, body, j, hb, h => by
    rw [GT.lf] at h
    refine lf_at a (pre ++ [⟨3, 1, lo, hi, [], [], []⟩]) post body j (by rw [hb]; simp [GT.fl]) ?_
    rw [List.length_append]; exact h
  | .lst alt bs, pre, post, body, j, hb, h => by
    rw [GT.lf] at h
    refine lfs_at bs (pre ++ [⟨kA alt, (bs.length : Int), 0, 0, [], [], []⟩]) post body j (by rw [hb]; simp [GT.fl]) ?_
    rw [List.length_append]; exact h
theorem lfs_at : ∀ (bs : List GT) (pre post : List shape_Node) (body : List shape_Node) (j : Nat), body = pre ++ (GT.fls bs ++ post) → GT.lfs bs pre.length j → ∃ n, body[j]? = some n ∧ lfG n = true
  | [], pre, post, body, j, hb, h => by rw [GT.lfs] at h; exact h.elim
  | b :: bs, pre, post, body, j, hb, h => by
    rw [GT.lfs] at h
    rw [GT.fls, List.append_assoc] at hb
    rcases h with h | h
    · exact lf_at b pre (GT.fls bs ++ post) body j hb h
    · refine lfs_at bs (pre ++ b.fl) post body j (by rw [hb]; simp) ?_
      rw [List.length_append]; exact h
end
theorem w_Walk {p : shape_Pattern} {choices : List Int} {t : GT} (hck : chkG p = 0) (ht : t.ok 0) (hb : p.Body = t.fl) (hlen : p.Body.length ≤ 1000) : W (fun N => s_scope_Walk N p choices) (· = (t.wk choices 0 s00).out) := by
  have hb0 : p.Body = [] ++ (t.fl ++ []) := by rw [hb]; simp
  simp only [s_scope_Walk]
  refine W.call (w_shCheck p) ?_
  rintro _ rfl
  simp only [hck, show ((0 : Int) != 0) = false from rfl, cond_false]
  refine W.call (f := fun N => s_scope_walker_tree_v577 N 0 p.Body choices 0 false) (p5 (body := p.Body) (cs := choices) hlen t 0 ht [] [] s00 s00_ok rfl hb0) ?_
  rintro r (⟨rfl, hz⟩ | rfl)
  · simp only [Sum.elim_inl, W.ret]; exact hz.symm
  · simp only [Sum.elim_inr, W.ret]; rfl
end
end
section
open Go Classical
section
variable (body : List shape_Node)
/-- Places within the body. -/
def bdn (A : Nat → Bool) : Prop := ∀ k, A k = true → ∃ n, body[k]? = some n
def vrn (k : Nat) : List UInt8 := match body[k]? with
  | some n => n.Var
  | none => []
/-- The names of a set's places. -/
def bnl (A : Nat → Bool) (n : Nat) : List (List UInt8) := ((List.range n).filter A).map (vrn body)
end
section
variable {body : List shape_Node}
mutual
theorem bd_t : ∀ (t : GT) (w : Int) (_ : t.ok w) (pre post : List shape_Node) (A : Nat → Bool), body = pre ++ (t.fl ++ post) → bdn body A → bdn body (t.fA body A) ∧ ∀ j, bdn body (t.rw body pre.length A j)
  | .leaf neg v ty o, w, hw, pre, post, A, hb, h => by
    refine ⟨?_, fun j => by rw [GT.rw]; exact h⟩
    rw [GT.fA]
    cases neg
    · simp only [Bool.false_eq_true, if_false]
      intro k hk
      by_cases hk2 : k = idn v body
      · subst hk2
        obtain ⟨_, n, h2, _⟩ := idn_lt (v := v) body ⟨⟨kL false, 0, 0, 0, v, ty, oT o⟩, by rw [hb]; simp [GT.fl], by simp [isA, kL]⟩
        exact ⟨n, h2⟩
      · rw [upd, if_neg hk2] at hk; exact h k hk
    · simp only [if_true]; exact h
  | .rep lo hi a, w, hw, pre, post, A, hb, h => by
    obtain ⟨h1, h2⟩ := bd_t a 3 hw.2 (pre ++ [⟨3, 1, lo, hi, [], [], []⟩]) post A (by rw [hb]; simp [GT.fl]) h
    rw [List.length_append] at h2
    refine ⟨?_, fun j => by rw [GT.rw]; exact h2 j⟩
    rw [GT.fA]
    split
    · exact h
    · exact h1
  | .lst alt bs, w, hw, pre, post, A, hb, h => by
    obtain ⟨h1, h2, h3⟩ := bds_t bs (kA alt) hw.2.2.2 (pre ++ [⟨kA alt, (bs.length : Int), 0, 0, [], [], []⟩]) post A (by rw [hb]; simp [GT.fl]) h
    rw [List.length_append] at h3
    refine ⟨?_, fun j => by rw [GT.rw]; exact h3 alt j⟩
    rw [GT.fA]
    cases alt
    · simpa using h1
    · simp only [if_true]
      exact h2 (fun e => by have := hw.2.1; rw [e] at this; simp at this)
theorem bds_t : ∀ (bs : List GT) (w : Int) (_ : GT.oks bs w) (pre post : List shape_Node) (A : Nat → Bool), body = pre ++ (GT.fls bs ++ post) → bdn body A → bdn body (GT.fAs body bs A) ∧ (bs ≠ [] → bdn body (GT.fAl body bs A)) ∧ ∀ alt j, bdn body (GT.rws body alt bs pre.length A j)
  | [], w, hw, pre, post, A, hb, h => ⟨by rw [GT.fAs]; exact h, fun h => absurd rfl h, fun alt j => by rw [GT.rws]; exact h⟩
  | b :: bs, w, hw, pre, post, A, hb, h => by
    rw [GT.fls, List.append_assoc] at hb
    obtain ⟨h1, h2⟩ := bd_t b w hw.1 pre (GT.fls bs ++ post) A hb h
    obtain ⟨k1, _, k3⟩ := bds_t bs w hw.2 (pre ++ b.fl) post (b.fA body A) (by rw [hb]; simp) h1
    obtain ⟨_, _, m3⟩ := bds_t bs w hw.2 (pre ++ b.fl) post A (by rw [hb]; simp) h
    rw [List.length_append] at k3 m3
    refine ⟨by rw [GT.fAs]; exact k1, fun _ => ?_, fun alt j => ?_⟩
    · intro k hk
      simp only [GT.fAl, Bool.and_eq_true] at hk
      exact h1 k hk.1
    · rw [GT.rws]
      split
      · exact h2 j
      · cases alt
        · exact k3 false j
        · exact m3 true j
end
theorem bnl_succ (A : Nat → Bool) (n : Nat) : bnl body A (n + 1) = if A n = true then bnl body A n ++ [vrn body n] else bnl body A n := by
  unfold bnl
  rw [List.range_succ, List.filter_append, List.map_append]
  cases h : A n <;> simp [List.filter, h]
theorem bnl_len (A : Nat → Bool) (n : Nat) : (bnl body A n).length ≤ n := by
  unfold bnl
  rw [List.length_map]
  exact Nat.le_trans (List.length_filter_le _ _) (by simp)
theorem w_Bound {p : shape_Pattern} {t : GT} (hck : chkG p = 0) (ht : t.ok 0) (hb : p.Body = t.fl) (hlen : p.Body.length ≤ 40) {jn : Nat} (hl : t.lf 0 jn) : W (fun N => s_scope_Bound N p (jn : Int)) (· = sortS (bnl p.Body (t.rw p.Body 0 A0 jn) 40)) := by
  have hb0 : p.Body = [] ++ (t.fl ++ []) := by rw [hb]; simp
  obtain ⟨n, hn, hlf⟩ := lf_at t [] [] p.Body jn hb0 hl
  have hj : jn < p.Body.length := (List.getElem?_eq_some_iff.1 hn).1
  have hj' : jn < 40 := by omega
  have hbd := (bd_t t 0 ht [] [] A0 hb0 (fun k hk => by cases hk)).2 jn
  simp only [s_scope_Bound]
  refine W.call (N := fun N => N) (w_shCheck p) ?_
  rintro _ rfl
  simp only [hck, show ((0 : Int) != 0) = false from rfl, cond_false, show ltB (jn : Int) 0 = false from ltB_not.2 (by omega), show leB (p.Body.length : Int) (jn : Int) = false from leB_not.2 (by omega), ix_nat' p.Body, hn, Option.bind_some, e_leaf, hlf, Bool.not_true]
  refine W.call (N := fun N => N) (w_sure ht hb hlen) ?_
  rintro ⟨b0, Y⟩ ⟨e1, hY⟩
  dsimp only at e1 hY
  subst e1
  simp only [show leB 0 (jn : Int) = true from leB_iff.2 (by omega), show ltB (jn : Int) 40 = true from ltB_iff.2 (by omega), gd_true, ix_l Y hj' (A40.c false), Option.bind_some]
  have hrow : gb (Y.l.getD jn (A40.c false)) = t.rw p.Body 0 A0 jn := hY.2 jn hl
  generalize Y.l.getD jn (A40.c false) = e2 at hrow
  refine W.lp2 (N := fun N => N) (P := fun x ys => ∃ n : Nat, x = (n : Int) ∧ n ≤ 40 ∧ ys = bnl p.Body (t.rw p.Body 0 A0 jn) n) (m := fun x _ => 40 - x.toNat) ⟨0, rfl, by omega, rfl⟩ ?_
  rintro F x ys ⟨n, rfl, hn40, rfl⟩ next
  simp only [s_scope_Bound_1]
  by_cases h : n < 40
  · have hA : e2.l.getD n false = t.rw p.Body 0 A0 jn n := congrFun hrow n
    simp only [show ltB (n : Int) 40 = true from ltB_iff.2 (by omega), cond_true, ix_l e2 h false, Option.bind_some, hA]
    have hs := bnl_succ (body := p.Body) (t.rw p.Body 0 A0 jn) n
    refine W.cond.2 ⟨fun hA => ?_, fun hA => ?_⟩
    · obtain ⟨nk, hnk⟩ := hbd n hA
      have hlen2 := bnl_len (body := p.Body) (t.rw p.Body 0 A0 jn) n
      simp only [ix_nat' p.Body, hnk, Option.bind_some, W.gd, i64b_eq]
      refine ⟨Nat.ble_eq_true_of_le (by omega), by omega, next _ _ ⟨n + 1, by omega, by omega, ?_⟩ (by omega)⟩
      rw [hs, if_pos hA]
      simp [vrn, hnk]
    · simp only [W.gd, i64b_eq]
      exact ⟨by omega, next _ _ ⟨n + 1, by omega, by omega, by rw [hs, if_neg (by rw [hA]; simp)]⟩ (by omega)⟩
  · have : n = 40 := by omega
    subst this
    have hlen2 := bnl_len (body := p.Body) (t.rw p.Body 0 A0 jn) 40
    simp only [show ltB ((40 : Nat) : Int) 40 = false from rfl, cond_false, s_slices_Sort_string_v986, show Nat.ble (bnl p.Body (t.rw p.Body 0 A0 jn) 40).length 4611686018427387903 = true from Nat.ble_eq_true_of_le (by omega), gd_true, Option.bind_some, W.ret]
theorem w_sureL {p : shape_Pattern} {t : GT} (hck : chkG p = 0) (ht : t.ok 0) (hb : p.Body = t.fl) (hlen : p.Body.length ≤ 40) (cs : List Int) {l : List Int} (hl : l = (t.wk cs 0 s00).out) : W (fun N => lp1 (s_law15_ScopeSure_1 N l p.Body p.Within p.By p.Mode) N 0) (· = true) := by
  have hb0 : p.Body = [] ++ (t.fl ++ []) := by rw [hb]; simp
  obtain ⟨⟨new, g1, g2⟩, _⟩ := su (cs := cs) t 0 ht [] [] A0 s00 hb0 s00_ok (fun k hk => by cases hk)
  have g1 : (t.wk cs 0 s00).out = new := g1
  rw [← hl] at g1
  subst g1
  have hll : l.length ≤ 100 := by rw [hl]; exact (wk_ok (cs := cs) t 0 s00 s00_ok).2.2.1
  clear hl
  refine wf1 (l := l) (fun _ => True) [] rfl rfl (by omega) trivial ?_ ?_
  rotate_left
  · intro F k1 _
    simp only [s_law15_ScopeSure_1, k1, cond_false]
    exact w_aw15 (fun p : Nat × Nat => p.1)
  intro F pre e rest h1 k1 k2 k3 _ hn
  obtain ⟨jn, rfl, q2, q3⟩ := g2 pre e rest h1
  have q3 : inv p.Body (t.rw p.Body 0 A0 jn) pre := q3
  have q2 : t.lf 0 jn := q2
  obtain ⟨n, hjn, hlf⟩ := lf_at t [] [] p.Body jn hb0 q2
  have hj : jn < p.Body.length := (List.getElem?_eq_some_iff.1 hjn).1
  have hpl : pre.length < l.length := by rw [h1]; simp
  simp only [s_law15_ScopeSure_1, k1, k2, Option.bind_some, cond_true, show ltB (jn : Int) 0 = false from ltB_not.2 (by omega), show leB (p.Body.length : Int) (jn : Int) = false from leB_not.2 (by omega), cond_false, ix_nat' p.Body, hjn, show ltB n.Kind 4 = false from ltB_not.2 (lfG4 hlf)]
  have hp : shape_Pattern.mk p.Body p.Within p.By p.Mode = p := rfl
  rw [hp]
  refine W.call (N := fun q : Nat × Nat => q.1) (w_Bound hck ht hb hlen q2) ?_
  rintro _ rfl
  generalize hbo : sortS (bnl p.Body (t.rw p.Body 0 A0 jn) 40) = bo
  have hbl : bo.length ≤ 40 := by
    rw [← hbo, sortS, List.length_mergeSort]; exact bnl_len _ _
  have hps : ∀ v ∈ bo, psd p.Body pre v := by
    intro v hv
    rw [← hbo, sortS, List.mem_mergeSort] at hv
    unfold bnl at hv
    obtain ⟨k, hk, rfl⟩ := List.mem_map.1 hv
    obtain ⟨_, hA⟩ := List.mem_filter.1 hk
    obtain ⟨nk, a1, a2⟩ := q3 k hA
    simp only [vrn, a1]
    exact a2
  have at_ : ∀ m : Nat, m < pre.length → ∃ (xn : Nat) (nx : shape_Node), ix l (m : Int) = some (xn : Int) ∧ pre[m]? = some (xn : Int) ∧ p.Body[xn]? = some nx := by
    intro m hm
    have e1 : l[m]? = some pre[m] := by rw [h1, List.getElem?_append_left hm]; simp [hm]
    have e2 : l = pre.take m ++ pre[m] :: (pre.drop (m + 1) ++ (jn : Int) :: rest) := by
      rw [h1]
      have : pre = pre.take m ++ pre[m] :: pre.drop (m + 1) := by simp
      exact (congrArg (· ++ (jn : Int) :: rest) this).trans (by simp only [List.append_assoc, List.cons_append])
    obtain ⟨xn, a1, a2, _⟩ := g2 _ _ _ e2
    obtain ⟨nx, b1, _⟩ := lf_at t [] [] p.Body xn hb0 a2
    exact ⟨xn, nx, by rw [ix_nat', e1, a1], by rw [← a1]; simp [hm], b1⟩
  refine wf1 (l := bo) (N := fun q : Nat × Nat => q.1) (fun _ => True) [] rfl rfl (by omega) trivial ?_ ?_
  rotate_left
  · intro F2 j1 _
    simp only [s_law15_ScopeSure_2, j1, cond_false, k3, gd_true]
    exact (hn trivial).lift
  intro F2 bp v br hb1 j1 j2 j3 _ hn2
  simp only [s_law15_ScopeSure_2, j1, cond_true]
  obtain ⟨j, p1, nj, p2, p3⟩ := hps v (by rw [hb1]; simp)
  obtain ⟨mj, hmj, hpj⟩ := List.getElem_of_mem p1
  refine W.lp2 (N := fun q : (Nat × Nat) × Nat => q.1.1) (P := fun ps m => ∃ mm : Nat, m = (mm : Int) ∧ mm ≤ pre.length ∧ (ps = true ∨ ∀ (i xn : Nat) (nx : shape_Node), i < mm → pre[i]? = some (xn : Int) → p.Body[xn]? = some nx → isA nx v = false)) (m := fun _ m => pre.length - m.toNat) ⟨0, rfl, by omega, .inr fun i xn nx hi => by omega⟩ ?_
  rintro F4 ps m ⟨mm, rfl, hm, hpss⟩ next
  simp only [s_law15_ScopeSure_3]
  by_cases hlt : mm < pre.length
  · obtain ⟨xn, nx, x1, x4, x2⟩ := at_ mm hlt
    simp only [show ltB (mm : Int) (pre.length : Int) = true from ltB_iff.2 (by omega), cond_true, x1, j2, Option.bind_some, ix_nat' p.Body, x2]
    have hno : isA nx v = false → ps = false → ∀ (i xn : Nat) (nx : shape_Node), i < mm + 1 → pre[i]? = some (xn : Int) → p.Body[xn]? = some nx → isA nx v = false := by
      intro hna hpf i xn' nx' hi e1 e2
      rcases Nat.lt_or_ge i mm with h' | h'
      · rcases hpss with hpss | hpss
        · rw [hpf] at hpss; cases hpss
        · exact hpss i xn' nx' h' e1 e2
      · have : i = mm := by omega
        subst this
        rw [x4] at e1
        have : xn = xn' := by
          have := Option.some.inj e1; omega
        subst this
        rw [x2] at e2
        cases e2
        exact hna
    refine W.cond.2 ⟨fun hpt => ?_, fun hpf => W.cond.2 ⟨fun hvv => ?_, fun hvv => ?_⟩⟩
    · simp only [W.gd, i64b_eq]
      exact ⟨by omega, next _ _ ⟨mm + 1, by omega, by omega, .inl rfl⟩ (by omega)⟩
    · simp only [W.gd, i64b_eq]
      refine ⟨by omega, next _ _ ⟨mm + 1, by omega, by omega, ?_⟩ (by omega)⟩
      cases hk : (nx.Var == v) with
      | true => exact .inl rfl
      | false => exact .inr (hno (by simp [isA, hk]) hpf)
    · simp only [W.gd, i64b_eq]
      exact ⟨by omega, next _ _ ⟨mm + 1, by omega, by omega, .inr (hno (by simp only [isA, hvv, Bool.false_and]) hpf)⟩ (by omega)⟩
  · simp only [show ltB (mm : Int) (pre.length : Int) = false from ltB_not.2 (by omega), cond_false]
    refine W.cond.2 ⟨fun hpf => ?_, fun _ => ?_⟩
    · rcases hpss with hpss | hpss
      · rw [hpss] at hpf; cases hpf
      · have := hpss mj j nj (by omega) (by rw [List.getElem?_eq_getElem hmj, hpj]) p2
        rw [this] at p3; cases p3
    · simp only [j3, gd_true]
      exact (hn2 trivial).lift
end
theorem full_ScopeSure (p : shape_Pattern) (choices : List Int) (hp : ok_shape_Pattern p) (hc : okL (inK .i64) choices) : W (fun N => s_law15_ScopeSure N p choices) (· = true) := by
  have hob : ∀ n ∈ p.Body, okN n.Test := fun n hn m hm => inK_u64 (((hp.1.1 n hn).2.2.2.2.2.2.1 m hm).2.2.2.2.2.2.1)
  simp only [s_law15_ScopeSure]
  refine W.call (w_gOver p hp) fun b hb => ?_
  refine W.cond.2 ⟨fun _ => w_aw15 _, fun hb0 => ?_⟩
  obtain ⟨l50, _, lt⟩ := hb (by have := ltB_not.1 hb0; omega)
  refine W.cond.2 ⟨fun _ => w_aw15 _, fun hb1 => ?_⟩
  refine W.call (w_gOwn p l50 lt) fun own h => ?_
  obtain rfl := h.symm
  by_cases hck : chkG p = 0
  · obtain ⟨q1, q2, q3, q4, q5, t, q6, q7, q8⟩ := chkG_tree hob hck
    refine W.call (w_Walk (choices := choices) hck q6 q8 (by omega)) fun l hl => ?_
    exact w_sureL hck q6 q8 q1 choices hl
  · refine W.call (f := fun N => s_scope_Walk N p choices) (P := fun r => r = []) ?_ ?_
    · simp only [s_scope_Walk]
      refine W.call (w_shCheck p) ?_
      rintro _ rfl
      simp only [show (chkG p != 0) = true by simpa using hck, cond_true, W.ret]
    · rintro _ rfl
      refine W.lp1 (N := fun N => N) (P := fun i => i = 0) (m := fun _ => 0) rfl ?_
      rintro F i rfl next
      simp only [s_law15_ScopeSure_1, List.length_nil, show ltB 0 ((0 : Nat) : Int) = false from rfl, cond_false]
      exact w_aw15 (fun p : Nat × Nat => p.1)
end
end Go.Proofs.YtbioikdfpfafaaaGreatDoor.W
