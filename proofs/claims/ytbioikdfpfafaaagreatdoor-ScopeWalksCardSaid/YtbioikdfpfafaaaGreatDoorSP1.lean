/- What the law is handed, told as what its plain text takes. No premise beyond what each theorem says. -/
import Derived.Test.YtbioikdfpfafaaaGreatDoorSG2
import Derived.Test.YtbioikdfpfafaaaGreatDoorSA2
import Derived.Test.YtbioikdfpfafaaaGreatDoorSA3
import Derived.Test.YtbioikdfpfafaaaGreatDoorSG1
set_option linter.all false
set_option linter.unusedSimpArgs false
set_option linter.unusedVariables false
namespace Go.Proofs.YtbioikdfpfafaaaGreatDoor.S
open Go
section
open Go.Proofs.Tryz
set_option maxRecDepth 1000000
def ok_value_Value (x : value_Value) : Prop := (inK .u8) x.Kind ∧ (inK .i64) x.N ∧ (inK .u64) x.Bits ∧ okS x.Text
def ok_pred_Node (x : pred_Node) : Prop := (inK .u8) x.Kind ∧ (inK .u8) x.Op ∧ okS x.Var ∧ okS x.Name ∧ ok_value_Value x.Val
def ok_shape_Node (x : shape_Node) : Prop := (inK .u8) x.Kind ∧ (inK .i64) x.Kids ∧ (inK .i64) x.Lo ∧ (inK .i64) x.Hi ∧ okS x.Var ∧ okS x.Type_ ∧ (okL ok_pred_Node) x.Test
def ok_shape_Pattern (x : shape_Pattern) : Prop := (okL ok_shape_Node) x.Body ∧ (inK .i64) x.Within ∧ okS x.By ∧ (inK .u8) x.Mode
theorem d_law15_ScopeWalks_t5 {H : Type} (d : DataW H) (cs : List AV) (h : DAv prog 5 d cs) : ∃ x : Int, cs = [.v (.int .u8 x)] ∧ (inK .u8) x := by
  obtain ⟨x, h, h1, h2⟩ := dv_int (k := .u8) (by kernel_rfl) h
  exact ⟨x, h, h1, h2⟩
theorem d_law15_ScopeWalks_t3 {H : Type} (d : DataW H) (cs : List AV) (h : DAv prog 3 d cs) : ∃ x : Int, cs = [.v (.int .i64 x)] ∧ (inK .i64) x := by
  obtain ⟨x, h, h1, h2⟩ := dv_int (k := .i64) (by kernel_rfl) h
  exact ⟨x, h, h1, h2⟩
theorem d_law15_ScopeWalks_t9 {H : Type} (d : DataW H) (cs : List AV) (h : DAv prog 9 d cs) : ∃ x : List UInt8, cs = [.v (.string (bs x))] ∧ okS x := by
  obtain ⟨x, h, h1⟩ := dv_string (by kernel_rfl) h
  exact ⟨x, h, h1⟩
theorem d_law15_ScopeWalks_t53 {H : Type} (d : DataW H) (cs : List AV) (h : DAv prog 53 d cs) : ∃ x : Int, cs = [.v (.int .u64 x)] ∧ (inK .u64) x := by
  obtain ⟨x, h, h1, h2⟩ := dv_int (k := .u64) (by kernel_rfl) h
  exact ⟨x, h, h1, h2⟩
theorem d_law15_ScopeWalks_t112 {H : Type} (d : DataW H) (cs : List AV) (h : DAv prog 112 d cs) : ∃ x : value_Value, cs = [.v (.int .u8 x.Kind), .v (.int .i64 x.N), .v (.int .u64 x.Bits), .v (.string (bs x.Text))] ∧ ok_value_Value x := by
  obtain ⟨_, h⟩ := dv_struct (ts := [5, 3, 53, 9]) (by kernel_rfl) h
  obtain ⟨_, _, _, _, rfl, h0, h⟩ := dvs_cons h
  obtain ⟨_, _, _, _, rfl, h1, h⟩ := dvs_cons h
  obtain ⟨_, _, _, _, rfl, h2, h⟩ := dvs_cons h
  obtain ⟨_, _, _, _, rfl, h3, h⟩ := dvs_cons h
  obtain rfl := dvs_nil h
  obtain ⟨x0, rfl, k0⟩ := d_law15_ScopeWalks_t5 _ _ h0
  obtain ⟨x1, rfl, k1⟩ := d_law15_ScopeWalks_t3 _ _ h1
  obtain ⟨x2, rfl, k2⟩ := d_law15_ScopeWalks_t53 _ _ h2
  obtain ⟨x3, rfl, k3⟩ := d_law15_ScopeWalks_t9 _ _ h3
  exact ⟨⟨x0, x1, x2, x3⟩, rfl, ⟨k0, k1, k2, k3⟩⟩
theorem d_law15_ScopeWalks_t114 {H : Type} (d : DataW H) (cs : List AV) (h : DAv prog 114 d cs) : ∃ x : pred_Node, cs = [.v (.int .u8 x.Kind), .v (.int .u8 x.Op), .v (.string (bs x.Var)), .v (.string (bs x.Name)), .v (.int .u8 x.Val.Kind), .v (.int .i64 x.Val.N), .v (.int .u64 x.Val.Bits), .v (.string (bs x.Val.Text))] ∧ ok_pred_Node x := by
  obtain ⟨_, h⟩ := dv_struct (ts := [5, 5, 9, 9, 112]) (by kernel_rfl) h
  obtain ⟨_, _, _, _, rfl, h0, h⟩ := dvs_cons h
  obtain ⟨_, _, _, _, rfl, h1, h⟩ := dvs_cons h
  obtain ⟨_, _, _, _, rfl, h2, h⟩ := dvs_cons h
  obtain ⟨_, _, _, _, rfl, h3, h⟩ := dvs_cons h
  obtain ⟨_, _, _, _, rfl, h4, h⟩ := dvs_cons h
  obtain rfl := dvs_nil h
  obtain ⟨x0, rfl, k0⟩ := d_law15_ScopeWalks_t5 _ _ h0
  obtain ⟨x1, rfl, k1⟩ := d_law15_ScopeWalks_t5 _ _ h1
  obtain ⟨x2, rfl, k2⟩ := d_law15_ScopeWalks_t9 _ _ h2
  obtain ⟨x3, rfl, k3⟩ := d_law15_ScopeWalks_t9 _ _ h3
  obtain ⟨x4, rfl, k4⟩ := d_law15_ScopeWalks_t112 _ _ h4
  exact ⟨⟨x0, x1, x2, x3, x4⟩, rfl, ⟨k0, k1, k2, k3, k4⟩⟩
theorem d_law15_ScopeWalks_t59 {H : Type} (d : DataW H) (cs : List AV) (h : DAv prog 59 d cs) : ∃ x : List pred_Node, cs = [.sl 8 (List.map eA4 x)] ∧ (okL ok_pred_Node) x := by
  obtain ⟨x, h, h1, h2⟩ := dv_slice (e := 114) (k := 8) eA4 ok_pred_Node (by kernel_rfl) (by kernel_rfl) (fun d cs h => by obtain ⟨x, h1, h2⟩ := d_law15_ScopeWalks_t114 d cs h; subst h1; exact ⟨x, mkE_agg (by kernel_rfl), h2⟩) h
  exact ⟨x, h, h1, h2⟩
theorem d_law15_ScopeWalks_t61 {H : Type} (d : DataW H) (cs : List AV) (h : DAv prog 61 d cs) : ∃ x : shape_Node, cs = [.v (.int .u8 x.Kind), .v (.int .i64 x.Kids), .v (.int .i64 x.Lo), .v (.int .i64 x.Hi), .v (.string (bs x.Var)), .v (.string (bs x.Type_)), .sl 8 (List.map eA4 x.Test)] ∧ ok_shape_Node x := by
  obtain ⟨_, h⟩ := dv_struct (ts := [5, 3, 3, 3, 9, 9, 59]) (by kernel_rfl) h
  obtain ⟨_, _, _, _, rfl, h0, h⟩ := dvs_cons h
  obtain ⟨_, _, _, _, rfl, h1, h⟩ := dvs_cons h
  obtain ⟨_, _, _, _, rfl, h2, h⟩ := dvs_cons h
  obtain ⟨_, _, _, _, rfl, h3, h⟩ := dvs_cons h
  obtain ⟨_, _, _, _, rfl, h4, h⟩ := dvs_cons h
  obtain ⟨_, _, _, _, rfl, h5, h⟩ := dvs_cons h
  obtain ⟨_, _, _, _, rfl, h6, h⟩ := dvs_cons h
  obtain rfl := dvs_nil h
  obtain ⟨x0, rfl, k0⟩ := d_law15_ScopeWalks_t5 _ _ h0
  obtain ⟨x1, rfl, k1⟩ := d_law15_ScopeWalks_t3 _ _ h1
  obtain ⟨x2, rfl, k2⟩ := d_law15_ScopeWalks_t3 _ _ h2
  obtain ⟨x3, rfl, k3⟩ := d_law15_ScopeWalks_t3 _ _ h3
  obtain ⟨x4, rfl, k4⟩ := d_law15_ScopeWalks_t9 _ _ h4
  obtain ⟨x5, rfl, k5⟩ := d_law15_ScopeWalks_t9 _ _ h5
  obtain ⟨x6, rfl, k6⟩ := d_law15_ScopeWalks_t59 _ _ h6
  exact ⟨⟨x0, x1, x2, x3, x4, x5, x6⟩, rfl, ⟨k0, k1, k2, k3, k4, k5, k6⟩⟩
theorem d_law15_ScopeWalks_t22 {H : Type} (d : DataW H) (cs : List AV) (h : DAv prog 22 d cs) : ∃ x : List shape_Node, cs = [.sl 7 (List.map eA5 x)] ∧ (okL ok_shape_Node) x := by
  obtain ⟨x, h, h1, h2⟩ := dv_slice (e := 61) (k := 7) eA5 ok_shape_Node (by kernel_rfl) (by kernel_rfl) (fun d cs h => by obtain ⟨x, h1, h2⟩ := d_law15_ScopeWalks_t61 d cs h; subst h1; exact ⟨x, mkE_agg (by kernel_rfl), h2⟩) h
  exact ⟨x, h, h1, h2⟩
theorem d_law15_ScopeWalks_t24 {H : Type} (d : DataW H) (cs : List AV) (h : DAv prog 24 d cs) : ∃ x : shape_Pattern, cs = [.sl 7 (List.map eA5 x.Body), .v (.int .i64 x.Within), .v (.string (bs x.By)), .v (.int .u8 x.Mode)] ∧ ok_shape_Pattern x := by
  obtain ⟨_, h⟩ := dv_struct (ts := [22, 3, 9, 5]) (by kernel_rfl) h
  obtain ⟨_, _, _, _, rfl, h0, h⟩ := dvs_cons h
  obtain ⟨_, _, _, _, rfl, h1, h⟩ := dvs_cons h
  obtain ⟨_, _, _, _, rfl, h2, h⟩ := dvs_cons h
  obtain ⟨_, _, _, _, rfl, h3, h⟩ := dvs_cons h
  obtain rfl := dvs_nil h
  obtain ⟨x0, rfl, k0⟩ := d_law15_ScopeWalks_t22 _ _ h0
  obtain ⟨x1, rfl, k1⟩ := d_law15_ScopeWalks_t3 _ _ h1
  obtain ⟨x2, rfl, k2⟩ := d_law15_ScopeWalks_t9 _ _ h2
  obtain ⟨x3, rfl, k3⟩ := d_law15_ScopeWalks_t5 _ _ h3
  exact ⟨⟨x0, x1, x2, x3⟩, rfl, ⟨k0, k1, k2, k3⟩⟩
theorem d_law15_ScopeWalks_t45 {H : Type} (d : DataW H) (cs : List AV) (h : DAv prog 45 d cs) : ∃ x : List Int, cs = [.sl 1 (List.map eA0 x)] ∧ (okL (inK .i64)) x := by
  obtain ⟨x, h, h1, h2⟩ := dv_slice (e := 3) (k := 1) eA0 (inK .i64) (by kernel_rfl) (by kernel_rfl) (fun d cs h => by obtain ⟨x, h1, h2⟩ := d_law15_ScopeWalks_t3 d cs h; subst h1; exact ⟨x, mkE_one (by kernel_rfl), h2⟩) h
  exact ⟨x, h, h1, h2⟩
theorem d_law15_ScopeWalks {H : Type} (ds : List (DataW H)) (xs : List AV) (h : DAvV prog [24, 45] ds xs) :
    ∃ (p : shape_Pattern) (choices : List Int), xs = [.agg [.sl 7 (List.map eA5 p.Body), .v (.int .i64 p.Within), .v (.string (bs p.By)), .v (.int .u8 p.Mode)], .sl 1 (List.map eA0 choices)] ∧ ok_shape_Pattern p ∧ (okL (inK .i64)) choices := by
  obtain ⟨_, _, _, _, rfl, rfl, h0, h⟩ := dvv_cons h
  obtain ⟨_, _, _, _, rfl, rfl, h1, h⟩ := dvv_cons h
  obtain ⟨rfl, rfl⟩ := dvv_nil h
  obtain ⟨x0, rfl, k0⟩ := d_law15_ScopeWalks_t24 _ _ h0
  obtain ⟨x1, rfl, k1⟩ := d_law15_ScopeWalks_t45 _ _ h1
  exact ⟨x0, x1, by rw [mkE_agg (by kernel_rfl), mkE_one (by kernel_rfl)], k0, k1⟩
end
section
section
theorem wall {α : Type} {f : Nat → Option α} {a : α} (h : ∀ N, f N = some a) : W f (· = a) := ⟨a, ⟨0, fun N _ => h N⟩, rfl⟩
end
section
theorem ncmp (a : Int) : compare a a = .eq := by simp [compare, compareOfLessAndEq]
theorem bcmp (a : Bool) : compare a.toNat a.toNat = .eq := by simp [compare, compareOfLessAndEq]
theorem nan_iff (n : Nat) : fcmpB .neq .f64 n n = decide (9218868437227405312 < n % 9223372036854775808) := by
  have h : FloatKind.f64.format = Ieee.double := rfl
  simp only [fcmpB, h, Ieee.Format.order, Ieee.Format.read]
  have e1 : Ieee.double.signWeight = 9223372036854775808 := by decide
  have e2 : Ieee.double.infRung = 9218868437227405312 := by decide
  have e3 : Ieee.double.binade = 4503599627370496 := by decide
  rw [e1, e2, e3]
  by_cases h1 : n % 9223372036854775808 < 4503599627370496
  · rw [if_pos h1, decide_eq_false (by omega)]; simp only [Ieee.Datum.order, ncmp]; rfl
  · by_cases h2 : n % 9223372036854775808 < 9218868437227405312
    · rw [if_neg h1, if_pos h2, decide_eq_false (by omega)]; simp only [Ieee.Datum.order, ncmp]; rfl
    · by_cases h3 : n % 9223372036854775808 = 9218868437227405312
      · rw [if_neg h1, if_neg h2, if_pos h3, decide_eq_false (by omega)]; simp only [Ieee.Datum.order, bcmp]; rfl
      · rw [if_neg h1, if_neg h2, if_neg h3, decide_eq_true (by omega)]; rfl
def cln (u : Int) : Int := if 9218868437227405312 < u.toNat % 9223372036854775808 then 9221120237041090560 else u
theorem e_real_Clean (u : Int) (N : Nat) : s_real_Clean N u = some (cln u) := by
  simp only [s_real_Clean, s_real_of, Option.bind_some, nan_iff, cln, decide_eq_true_eq, Bool.cond_eq_ite]
  split <;> rfl
def vchk (v : value_Value) : Int :=
  if v.Kind = 1 then (if v.N < -4611686018427387904 ∨ 4611686018427387904 < v.N then 8 else if v.Bits = 0 ∧ v.Text = [] then 0 else 2)
  else if v.Kind = 2 then (if v.N < 0 ∨ 1 < v.N then 8 else if v.Bits = 0 ∧ v.Text = [] then 0 else 2)
  else if v.Kind = 3 then (if cln v.Bits ≠ v.Bits then 4 else if v.N = 0 ∧ v.Text = [] then 0 else 2)
  else if v.Kind = 4 then (if 24 < v.Text.length then 5 else if v.N = 0 ∧ v.Bits = 0 then 0 else 2)
  else 11
theorem e_value_Check (v : value_Value) (N : Nat) : s_value_Check N v = some (vchk v) := by
  have hc := e_real_Clean v.Bits N
  simp only [s_value_Check, s_value_core, vchk, Bool.cond_eq_ite, bothN_eq]
  by_cases k1 : v.Kind = 1
  · simp [k1, s_value_number_whole, ltB_iff]; repeat' split
    all_goals first | rfl | (exfalso; omega) | simp_all [eq_comm]
  · by_cases k2 : v.Kind = 2
    · simp [k2, s_value_flag_whole]; repeat' split
      all_goals first | rfl | (exfalso; omega) | simp_all [eq_comm]
    · by_cases k3 : v.Kind = 3
      · simp [k3, s_value_double_whole, hc]; repeat' split
        all_goals first | rfl | (exfalso; omega) | simp_all [eq_comm]
      · by_cases k4 : v.Kind = 4
        · simp [k4, s_value_words_whole, ltB_iff]; repeat' split
          all_goals first | rfl | (exfalso; omega) | simp_all [eq_comm]
        · simp [k1, k2, k3, k4]
end
section
theorem e_ref03_Clean (u : Int) (h0 : 0 ≤ u) (h1 : u ≤ 18446744073709551615) (N : Nat) : s_ref03_Clean N u = some (cln u) := by
  obtain ⟨n, rfl⟩ : ∃ n : Nat, u = (n : Int) := ⟨u.toNat, by omega⟩
  have d1 : Int.tdiv (n : Int) 4503599627370496 = ((n / 4503599627370496 : Nat) : Int) := rfl
  have w1 : IntKind.u64.wrap ((n / 4503599627370496 : Nat) : Int) = ((n / 4503599627370496 : Nat) : Int) := by
    rw [IntKind.wrap_u64]; omega
  have d2 : Int.tmod ((n / 4503599627370496 : Nat) : Int) 2048 = ((n / 4503599627370496 % 2048 : Nat) : Int) := rfl
  have w2 : IntKind.i64.wrap ((n / 4503599627370496 % 2048 : Nat) : Int) = ((n / 4503599627370496 % 2048 : Nat) : Int) := by
    rw [IntKind.wrap_i64]; omega
  have d3 : Int.tmod (n : Int) 4503599627370496 = ((n % 4503599627370496 : Nat) : Int) := rfl
  have hexp : s_ref03_Exp N n = some ((n / 4503599627370496 % 2048 : Nat) : Int) := by simp only [s_ref03_Exp, d1, w1, d2, w2]
  have hfrac : s_ref03_Frac N n = some ((n % 4503599627370496 : Nat) : Int) := by simp only [s_ref03_Frac, d3]
  have hk : ∃ k, s_ref03_Kind N n = some k ∧ (k == 5) = decide (9218868437227405312 < n % 9223372036854775808) := by
    simp only [s_ref03_Kind, hexp, hfrac, Option.bind_some, Bool.cond_eq_ite]
    by_cases c1 : n / 4503599627370496 % 2048 = 2047
    · have c1' : (((n / 4503599627370496 % 2048 : Nat) : Int) == 2047) = true := by simp; omega
      by_cases c2 : n % 4503599627370496 = 0
      · have c2' : (((n % 4503599627370496 : Nat) : Int) != 0) = false := by simp; omega
        simp only [c1', c2', if_true]
        exact ⟨4, rfl, by symm; exact decide_eq_false (by omega)⟩
      · have c2' : (((n % 4503599627370496 : Nat) : Int) != 0) = true := by simp; omega
        simp only [c1', c2', if_true]
        exact ⟨5, rfl, by symm; exact decide_eq_true (by omega)⟩
    · have c1' : (((n / 4503599627370496 % 2048 : Nat) : Int) == 2047) = false := by simp; omega
      simp only [c1', Bool.false_eq_true, if_false]
      have hd : decide (9218868437227405312 < n % 9223372036854775808) = false := decide_eq_false (by omega)
      rw [hd]
      by_cases c3 : (((n / 4503599627370496 % 2048 : Nat) : Int) != 0) = true
      · simp only [c3, if_true]; exact ⟨3, rfl, rfl⟩
      · by_cases c4 : (((n % 4503599627370496 : Nat) : Int) != 0) = true
        · simp only [eq_false_of_ne_true c3, c4, if_true, Bool.false_eq_true, if_false]; exact ⟨2, rfl, rfl⟩
        · simp only [eq_false_of_ne_true c3, eq_false_of_ne_true c4, Bool.false_eq_true, if_false]; exact ⟨1, rfl, rfl⟩
  obtain ⟨k, hk1, hk2⟩ := hk
  simp only [s_ref03_Clean, hk1, hk2, Option.bind_some, cln, decide_eq_true_eq, Int.toNat_natCast, Bool.cond_eq_ite]
  split <;> rfl
end
section
theorem e_ref04_Check (v : value_Value) (h0 : 0 ≤ v.Bits) (h1 : v.Bits ≤ 18446744073709551615) (N : Nat) : s_ref04_Check N v = some (vchk v) := by
  have hc := e_ref03_Clean v.Bits h0 h1 N
  simp only [s_ref04_Check, hc, Option.bind_some, vchk, Bool.cond_eq_ite, ltB_iff]
  by_cases k1 : v.Kind = 1
  · simp [k1]; repeat' split
    all_goals first | rfl | (exfalso; omega) | simp_all
  · by_cases k2 : v.Kind = 2
    · simp [k2]; repeat' split
      all_goals first | rfl | (exfalso; omega) | simp_all
    · by_cases k3 : v.Kind = 3
      · simp [k3]; repeat' split
        all_goals first | rfl | (exfalso; omega) | simp_all
      · by_cases k4 : v.Kind = 4
        · simp [k4]; repeat' split
          all_goals first | rfl | (exfalso; omega) | simp_all
        · simp [k1, k2, k3, k4]; repeat' split
          all_goals first | rfl | (exfalso; omega) | (intros; omega) | simp_all
end
section
def nResl : List (List UInt8) := [[119, 105, 116, 104, 105, 110], [98, 121], [97, 110, 100], [111, 114], [110, 111, 116], [97, 110, 121], [110, 101, 120, 116], [115, 116, 114, 105, 99, 116], [116, 114, 117, 101], [102, 97, 108, 115, 101]]
def nResv (s : List UInt8) : Bool := nResl.any (s == ·)
theorem w_nSReserved (s : List UInt8) : W (fun N => s_schema_Reserved N s) (· = nResv s) := by
  refine wall fun N => ?_
  have e2 : ∀ (b r : Bool), (bif b then some true else some r) = some (b || r) := by intro b r; cases b <;> rfl
  unfold s_schema_Reserved
  have e3 : ∀ (b r r' : Bool), (bif b then some (b || r') else some r) = some (b || r) := by intro b r r'; cases b <;> rfl
  have e4 : ∀ (b r : Bool), (bif b then some b else some r) = some (b || r) := by intro b r; cases b <;> rfl
  simp only [nResv, nResl, List.any_cons, List.any_nil, e2, e3, e4, Bool.or_false]
theorem w_nRReserved (s : List UInt8) : W (fun N => s_ref06_Reserved N s) (· = nResv s) := by
  refine wr1 (l := nResl) (fun _ rest => rest.any (s == ·)) [] nResl rfl rfl (by decide) ?_ ?_
  · intro F pre e rest hl h1 h2 h3 hn
    simp only [s_ref06_Reserved_1]
    rw [show ltB (pre.length : Int) (List.length ([[119, 105, 116, 104, 105, 110], [98, 121], [97, 110, 100], [111, 114], [110, 111, 116], [97, 110, 121], [110, 101, 120, 116], [115, 116, 114, 105, 99, 116], [116, 114, 117, 101], [102, 97, 108, 115, 101]] : List (List UInt8)) : Int) = true from h1]
    have h2' : ix ([[119, 105, 116, 104, 105, 110], [98, 121], [97, 110, 100], [111, 114], [110, 111, 116], [97, 110, 121], [110, 101, 120, 116], [115, 116, 114, 105, 99, 116], [116, 114, 117, 101], [102, 97, 108, 115, 101]] : List (List UInt8)) (pre.length : Int) = some e := h2
    simp only [h2', h3, Option.bind_some, cond_true, List.any_cons, gd_true, W.cond, W.ret]
    rw [show (e == s) = (s == e) from BEq.comm]
    refine ⟨fun h => by simp only [h, Bool.true_or], fun h => by simp only [h, Bool.false_or]; exact hn⟩
  · intro F h1
    simp only [s_ref06_Reserved_1]
    rw [show ltB (nResl.length : Int) (List.length ([[119, 105, 116, 104, 105, 110], [98, 121], [97, 110, 100], [111, 114], [110, 111, 116], [97, 110, 121], [110, 101, 120, 116], [115, 116, 114, 105, 99, 116], [116, 114, 117, 101], [102, 97, 108, 115, 101]] : List (List UInt8)) : Int) = false from h1]
    exact W.ret.2 rfl
def nLtr (c : UInt8) : Bool := leB 97 (c.toNat : Int) && leB (c.toNat : Int) 122
def nTl (c : UInt8) : Bool := nLtr c || (leB 48 (c.toNat : Int) && leB (c.toNat : Int) 57) || ((c.toNat : Int) == 95)
def nm : List UInt8 → Bool
  | [] => false
  | c :: t => !(ltB 12 ((c :: t).length : Int)) && (nLtr c && (!nResv (c :: t) && t.all nTl))
theorem e_schema_letter (c : UInt8) (N : Nat) : s_schema_letter N (c.toNat : Int) = some (nLtr c) := by
  simp only [s_schema_letter, nLtr]; cases leB 97 (c.toNat : Int) <;> rfl
theorem e_schema_tail (c : UInt8) (N : Nat) : s_schema_tail N (c.toNat : Int) = some (nTl c) := by
  simp only [s_schema_tail, e_schema_letter, Option.bind_some, nTl]
  cases nLtr c <;> cases leB 48 (c.toNat : Int) <;> cases leB (c.toNat : Int) 57 <;> rfl
theorem w_schema_Name (s : List UInt8) : W (fun N => s_schema_Name N s) (· = nm s) := by
  cases s with
  | nil => exact wall fun _ => rfl
  | cons c t =>
    simp only [s_schema_Name, show ((c :: t) == ([] : List UInt8)) = false from rfl, cond_false, W.cond, W.ret, show ix (c :: t) 0 = some c from rfl, Option.bind_some, e_schema_letter]
    refine ⟨fun h => by simp only [nm, h, Bool.not_true, Bool.false_and], fun h => ⟨fun h' => ?_, fun h' => ?_⟩⟩
    · have h' : nLtr c = false := by simpa using h'
      simp only [nm, h', Bool.false_and, Bool.and_false]
    have h' : nLtr c = true := by simpa using h'
    simp only [nm, h, h', Bool.not_false, Bool.true_and]
    refine W.call (w_nSReserved _) ?_
    rintro _ rfl
    simp only [W.cond, W.ret]
    refine ⟨fun h2 => by simp only [h2, Bool.not_true, Bool.false_and], fun h2 => ?_⟩
    simp only [h2, Bool.not_false, Bool.true_and]
    have hb := ltB_not.1 h
    refine wr1 (l := c :: t) (fun _ rest => rest.all nTl) [c] t rfl rfl (by omega) ?_ ?_
    · intro F pre e rest hl h1 h2 h3 hn
      simp only [s_schema_Name_1, h1, h2, h3, Option.bind_some, cond_true, e_schema_tail, W.cond, W.ret, gd_true, List.all_cons]
      refine ⟨fun h => ?_, fun h => ?_⟩
      · have h : nTl e = false := by simpa using h
        simp only [h, Bool.false_and]
      · have h : nTl e = true := by simpa using h
        simp only [h, Bool.true_and]; exact hn
    · intro F h1
      simp only [s_schema_Name_1, h1, cond_false, W.ret, List.all_nil]
def nmr : List UInt8 → List UInt8 → Bool
  | [], c :: t => nLtr c && t.all nTl
  | [], [] => true
  | _ :: _, rest => rest.all nTl
theorem nmr_cons (pre : List UInt8) (e : UInt8) (rest : List UInt8) : nmr pre (e :: rest) = (if (if pre = [] then nLtr e else nTl e) = true then rest.all nTl else false) := by
  cases pre with
  | nil => simp only [nmr, if_true]; cases nLtr e <;> rfl
  | cons c t => simp only [nmr, List.all_cons, reduceCtorEq, if_false]; cases nTl e <;> rfl
theorem nmr_snoc (pre : List UInt8) (e : UInt8) (rest : List UInt8) : nmr (pre ++ [e]) rest = rest.all nTl := by
  cases pre <;> rfl
theorem w_ref06_Name (s : List UInt8) : W (fun N => s_ref06_Name N s) (· = nm s) := by
  cases s with
  | nil => exact wall fun _ => rfl
  | cons c t =>
    have e0 : ltB (((c :: t).length : Nat) : Int) 1 = false := ltB_not.2 (by simp; omega)
    simp only [s_ref06_Name, e0, cond_false, W.cond, W.ret]
    refine ⟨fun h => by simp only [nm, h, Bool.not_true, Bool.false_and], fun h => ?_⟩
    simp only [nm, h, Bool.not_false, Bool.true_and]
    refine W.call (w_nRReserved _) ?_
    rintro _ rfl
    simp only [W.cond, W.ret]
    refine ⟨fun h2 => by simp only [h2, Bool.not_true, Bool.false_and, Bool.and_false], fun h2 => ?_⟩
    simp only [h2, Bool.not_false, Bool.true_and]
    have hb := ltB_not.1 h
    refine wr1 (l := c :: t) nmr [] (c :: t) rfl rfl (by omega) ?_ ?_
    · intro F pre e rest hl h1 h2 h3 hn
      simp only [s_ref06_Name_1, h1, h2, h3, Option.bind_some, cond_true, gd_true]
      rw [nmr_cons]
      rw [nmr_snoc] at hn
      have hi0 : ((pre.length : Int) == 0) = decide (pre = []) := by cases pre <;> simp <;> omega
      have e95 : (((e.toNat : Int) == 95) : Bool) = decide (e.toNat = 95) := by rw [Bool.eq_iff_iff]; simp; omega
      have a1 : leB 97 (e.toNat : Int) = decide (97 ≤ e.toNat) := by rw [leB_eq]; simp only [decide_eq_decide]; omega
      have a2 : leB 48 (e.toNat : Int) = decide (48 ≤ e.toNat) := by rw [leB_eq]; simp only [decide_eq_decide]; omega
      have a3 : leB (e.toNat : Int) 57 = decide (e.toNat ≤ 57) := by rw [leB_eq]; simp only [decide_eq_decide]; omega
      have a4 : leB (e.toNat : Int) 122 = decide (e.toNat ≤ 122) := by rw [leB_eq]; simp only [decide_eq_decide]; omega
      simp only [hi0, e95, a1, a2, a3, a4, nTl, nLtr]
      generalize rest.all nTl = R at hn ⊢
      by_cases b0 : pre = [] <;> by_cases b1 : 97 ≤ e.toNat <;> by_cases b2 : 48 ≤ e.toNat <;> by_cases b3 : e.toNat ≤ 57 <;> by_cases b4 : e.toNat ≤ 122 <;> by_cases b5 : e.toNat = 95 <;>
        first | (exfalso; omega) | (simp only [b0, b1, b2, b3, b4, b5, decide_true, decide_false, if_true, if_false, cond_true, cond_false, Bool.not_true, Bool.not_false, Bool.true_and, Bool.and_true, Bool.false_and, Bool.and_false, Bool.true_or, Bool.or_true, Bool.false_or, Bool.or_false, reduceCtorEq, Bool.false_eq_true]; first | exact hn | (subst b0; exact hn) | exact W.ret.2 rfl)
    · intro F h1
      simp only [s_ref06_Name_1, h1, cond_false, W.ret, nmr, List.all_nil]
end
section
def zT : lex_Token := ⟨0, 0, [], ⟨0, 0, 0, []⟩⟩
/-- The token at a place; one of no kind behind the last. -/
def tk (y : List lex_Token) (i : Nat) : lex_Token := y[i]?.getD zT
end
section
theorem W.shift {α : Type} {f : Nat → Option α} {Q : α → Prop} (h : W (fun N => f (N + 1)) Q) : W f Q := by
  obtain ⟨a, ⟨n, hn⟩, hq⟩ := h
  refine ⟨a, ⟨n + 1, fun N hN => ?_⟩, hq⟩
  obtain ⟨M, rfl⟩ : ∃ M, N = M + 1 := ⟨N - 1, by omega⟩
  exact hn M (by omega)
def bn (k : Int) : pred_Node := ⟨k, 0, [], [], ⟨0, 0, 0, []⟩⟩
end
section
def sgV (v : Int) : List UInt8 := if v = 1 then [61] else if v = 2 then [33, 61] else if v = 3 then [60] else if v = 4 then [60, 61] else if v = 5 then [62] else [62, 61]
end
section
def bad (n : pred_Node) : Bool :=
  bif n.Kind == 4 then !(leB 1 n.Op && leB n.Op 6)
  else bif n.Kind == 7 then !nm n.Name
  else bif n.Kind == 8 then (!nm n.Name) || (!nm n.Var)
  else bif n.Kind == 9 then vchk n.Val != 0
  else false
def nds (n : pred_Node) : Int := bif bad n then 4 else bif moreB n then 2 else 0
theorem sign_nil (v : Int) (N : Nat) : ∃ s, s_compare_Sign N v = some s ∧ (s == []) = !(leB 1 v && leB v 6) := by
  by_cases h : 1 ≤ v ∧ v ≤ 6
  · have h6 : v = 1 ∨ v = 2 ∨ v = 3 ∨ v = 4 ∨ v = 5 ∨ v = 6 := by omega
    rcases h6 with rfl | rfl | rfl | rfl | rfl | rfl <;> exact ⟨_, rfl, rfl⟩
  · refine ⟨[], ?_, ?_⟩
    · have e : ∀ k : Int, 1 ≤ k ∧ k ≤ 6 → (v == k) = false := fun k hk => by
        rw [beq_eq_false_iff_ne]; intro he; subst he; exact h hk
      simp only [s_compare_Sign, e 1 (by omega), e 2 (by omega), e 3 (by omega), e 4 (by omega), e 5 (by omega), e 6 (by omega), cond_false]
    · rw [leB_eq, leB_eq]
      have : ¬ (1 ≤ v ∧ v ≤ 6) := h
      by_cases h1 : 1 ≤ v
      · have : ¬ v ≤ 6 := fun h2 => h ⟨h1, h2⟩
        simp [h1, this]
      · simp [h1]
theorem w_lacks (n : pred_Node) : W (fun N => s_pred_Node_lacks N n) (· = bad n) := by
  obtain ⟨k, op, va, na, v⟩ := n
  simp only [s_pred_Node_lacks, bad]
  by_cases h4 : k = 4
  · subst h4
    have e : ∀ N, ((s_compare_Sign N op).bind fun sign => some (sign == [])) = some (!(leB 1 op && leB op 6)) := fun N => by
      obtain ⟨s, hs, h⟩ := sign_nil op N
      rw [hs, Option.bind_some, h]
    simp only [show ((4 : Int) == 4) = true from rfl, cond_true, e, W.ret]
  simp only [show (k == 4) = false by simpa using h4, cond_false]
  by_cases h7 : k = 7
  · subst h7
    simp only [show ((7 : Int) == 7) = true from rfl, cond_true]
    refine W.call (w_schema_Name na) ?_
    rintro _ rfl
    simp only [W.ret]
  simp only [show (k == 7) = false by simpa using h7, cond_false]
  by_cases h8 : k = 8
  · subst h8
    simp only [show ((8 : Int) == 8) = true from rfl, cond_true]
    refine W.call (w_schema_Name na) ?_
    rintro _ rfl
    cases hn : nm na with
    | false => simp [W.ret]
    | true =>
      simp only [Bool.not_true, cond_false]
      refine W.call (w_schema_Name va) ?_
      rintro _ rfl
      simp [W.ret]
  simp only [show (k == 8) = false by simpa using h8, cond_false]
  by_cases h9 : k = 9
  · subst h9
    simp only [show ((9 : Int) == 9) = true from rfl, cond_true, e_value_Check, Option.bind_some, W.ret]
  simp only [show (k == 9) = false by simpa using h9, cond_false, W.ret]
set_option maxHeartbeats 4000000 in
theorem w_needs (n : pred_Node) (b0 : 0 ≤ n.Val.Bits) (b1 : n.Val.Bits ≤ 18446744073709551615) : W (fun N => s_ref11_needs N n) (· = nds n) := by
  obtain ⟨k, op, va, na, v⟩ := n
  simp only at b0 b1
  simp only [s_ref11_needs, s_ref11_needs_k0, s_ref11_needs_k1, s_ref11_needs_j2, s_ref11_needs_k3, s_ref11_needs_k4, nds, bad, moreB, moreZ]
  by_cases h4 : k = 4
  · subst h4
    have l1 : ltB op 1 = !leB 1 op := by rw [ltB_eq, leB_eq]; by_cases h : op < 1 <;> simp [h] <;> omega
    have l2 : ltB 6 op = !leB op 6 := by rw [ltB_eq, leB_eq]; by_cases h : 6 < op <;> simp [h] <;> omega
    simp only [l1, l2]
    cases leB 1 op <;> cases leB op 6 <;> cases hv : (va == []) <;> cases hn : (na == []) <;> cases hz : ((v.Kind == 0) && ((v.N == 0) && ((v.Bits == 0) && (v.Text == [])))) <;> simp [W.ret]
  by_cases h7 : k = 7
  · subst h7
    simp only [show ((7 : Int) == 4) = false from rfl, show ((7 : Int) == 7) = true from rfl, cond_false, cond_true]
    refine W.call (w_ref06_Name na) ?_
    rintro _ rfl
    cases nm na <;> cases ho : (op == 0) <;> cases hv : (va == []) <;> cases hz : ((v.Kind == 0) && ((v.N == 0) && ((v.Bits == 0) && (v.Text == [])))) <;> simp [W.ret, bne, ho]
  by_cases h8 : k = 8
  · subst h8
    simp only [show ((8 : Int) == 4) = false from rfl, show ((8 : Int) == 7) = false from rfl, show ((8 : Int) == 8) = true from rfl, cond_false, cond_true]
    refine W.call (w_ref06_Name na) ?_
    rintro _ rfl
    cases nm na with
    | false => simp [W.ret]
    | true =>
      simp only [Bool.not_true, cond_false]
      refine W.call (w_ref06_Name va) ?_
      rintro _ rfl
      cases nm va <;> cases ho : (op == 0) <;> cases hz : ((v.Kind == 0) && ((v.N == 0) && ((v.Bits == 0) && (v.Text == [])))) <;> simp [W.ret, bne, ho]
  by_cases h9 : k = 9
  · subst h9
    simp only [e_ref04_Check v b0 b1, Option.bind_some]
    cases hc : (vchk v == 0) <;> cases ho : (op == 0) <;> cases hv : (va == []) <;> cases hn : (na == []) <;> simp [W.ret, bne, ho, hc]
  have e4 : (k == 4) = false := by simpa using h4
  have e7 : (k == 7) = false := by simpa using h7
  have e8 : (k == 8) = false := by simpa using h8
  have e9 : (k == 9) = false := by simpa using h9
  simp only [e4, e7, e8, e9, bne, cond_false, Bool.not_false, cond_true]
  cases ho : (op == 0) <;> cases hv : (va == []) <;> cases hn : (na == []) <;> cases hz : ((v.Kind == 0) && ((v.N == 0) && ((v.Bits == 0) && (v.Text == [])))) <;> simp [W.ret]
end
section
def kdN (k : Int) : Int := if k = 1 ∨ k = 2 ∨ k = 4 ∨ k = 5 ∨ k = 6 then 2 else if k = 3 then 1 else 0
def kdW (k : Int) (x : Int) : Int := if k ≤ 3 then 0 else if k = 4 then 1 else if x = 0 then 1 else 2
def stB (k w : Int) : Bool := bif w == 0 then leB 1 k && leB k 4 else bif w == 1 then leB 5 k && leB k 9 else leB 7 k && leB k 9
abbrev TF := Int → Int → Nat → Int × Nat
def kids (p : TF) (k d : Int) (i : Nat) : Int × Nat :=
  if kdN k = 0 then (0, i)
  else if (p (kdW k 0) (d + 1) i).1 ≠ 0 ∨ kdN k = 1 then p (kdW k 0) (d + 1) i
  else p (kdW k 1) (d + 1) (p (kdW k 0) (d + 1) i).2
def trS (l : List pred_Node) (p : TF) : TF := fun w d i =>
  match l[i]? with
  | none => (3, i)
  | some n => if 16 ≤ d then (15, i) else if stB n.Kind w = false then (11, i) else if nds n ≠ 0 then (nds n, i) else kids p n.Kind d (i + 1)
def TR (l : List pred_Node) : Nat → TF
  | 0 => fun _ _ i => (3, i)
  | n + 1 => trS l (TR l n)
theorem e_kids (k : Int) (N : Nat) : s_pred_Kids N k = some (kdN k) := by
  simp only [s_pred_Kids, kdN]
  by_cases h1 : k = 1
  · subst h1; rfl
  by_cases h2 : k = 2
  · subst h2; rfl
  by_cases h4 : k = 4
  · subst h4; rfl
  by_cases h5 : k = 5
  · subst h5; rfl
  by_cases h6 : k = 6
  · subst h6; rfl
  simp only [show (k == 1) = false by simpa using h1, show (k == 2) = false by simpa using h2, show (k == 4) = false by simpa using h4, show (k == 5) = false by simpa using h5, show (k == 6) = false by simpa using h6, cond_false, h1, h2, h4, h5, h6, false_or, if_false]
  by_cases h3 : k = 3
  · subst h3; rfl
  · simp [h3, show (k == 3) = false by simpa using h3]
theorem e_rkids (k : Int) (N : Nat) : s_ref11_Kids N k = some (kdN k) := by
  simp only [s_ref11_Kids, kdN]
  by_cases h1 : k = 1
  · subst h1; rfl
  by_cases h2 : k = 2
  · subst h2; rfl
  by_cases h4 : k = 4
  · subst h4; rfl
  by_cases h5 : k = 5
  · subst h5; rfl
  by_cases h6 : k = 6
  · subst h6; rfl
  simp only [show (k == 1) = false by simpa using h1, show (k == 2) = false by simpa using h2, show (k == 4) = false by simpa using h4, show (k == 5) = false by simpa using h5, show (k == 6) = false by simpa using h6, cond_false, h1, h2, h4, h5, h6, false_or, if_false]
  by_cases h3 : k = 3
  · subst h3; rfl
  · simp [h3, show (k == 3) = false by simpa using h3]
theorem e_kid (n : pred_Node) (x : Int) (N : Nat) : s_pred_Node_kid N n x = some (kdW n.Kind x) := by
  simp only [s_pred_Node_kid, kdW, leB_eq]
  by_cases h3 : n.Kind ≤ 3
  · simp [h3]
  · by_cases h4 : n.Kind = 4
    · simp [h4]
    · by_cases hx : x = 0
      · simp [h3, h4, hx, show (n.Kind == 4) = false by simpa using h4]
      · simp [h3, h4, hx, show (x == 0) = false by simpa using hx, show (n.Kind == 4) = false by simpa using h4]
theorem e_rkid (k x : Int) (N : Nat) : s_ref11_kid N k x = some (kdW k x + 1) := by
  simp only [s_ref11_kid, kdW, leB_eq]
  by_cases h3 : k ≤ 3
  · simp [h3]
  · by_cases h4 : k = 4
    · simp [h4]
    · by_cases hx : x = 0
      · simp [h3, h4, hx, show (k == 4) = false by simpa using h4]
      · simp [h3, h4, hx, show (x == 0) = false by simpa using hx, show (k == 4) = false by simpa using h4]
theorem e_stands (n : pred_Node) (w : Int) (N : Nat) : s_pred_Node_stands N n w = some (stB n.Kind w) := by
  simp only [s_pred_Node_stands, stB]
  cases w == 0 <;> cases w == 1 <;> cases leB 1 n.Kind <;> cases leB 5 n.Kind <;> cases leB 7 n.Kind <;> simp
theorem e_may (k w : Int) (N : Nat) : s_ref11_may N k (w + 1) = some (stB k w) := by
  simp only [s_ref11_may, stB]
  have e1 : (w + 1 == 1) = (w == 0) := by rw [Bool.eq_iff_iff, beq_iff_eq, beq_iff_eq]; omega
  have e2 : (w + 1 == 2) = (w == 1) := by rw [Bool.eq_iff_iff, beq_iff_eq, beq_iff_eq]; omega
  rw [e1, e2]
  cases w == 0 <;> cases w == 1 <;> cases leB 1 k <;> cases leB 5 k <;> cases leB 7 k <;> simp
theorem kdN_b (k : Int) : 0 ≤ kdN k ∧ kdN k ≤ 2 := by
  unfold kdN
  repeat' split
  all_goals omega
theorem get_ix {l : List pred_Node} {i : Nat} : (leB (l.length : Int) (i : Int) = (l[i]?).isNone) ∧ ∀ n, l[i]? = some n → ix l (i : Int) = some n := by
  refine ⟨?_, fun n h => by rw [ix_nat', h]⟩
  rw [leB_eq, Bool.eq_iff_iff, decide_eq_true_iff, Option.isNone_iff_eq_none, List.getElem?_eq_none_iff]
  omega
theorem p_kids {l : List pred_Node} {p : TF} {n : pred_Node} {d : Int} {i : Nat} (hl : l.length ≤ 30) (hd0 : 0 ≤ d) (hd : d < 16) (hp : ∀ (w : Int) (j : Nat), W (fun N => (SS_pred_checker_tree_v739 N) w (d + 1) l j) (· = ((p w (d + 1) j).1, l, ((p w (d + 1) j).2 : Int)))) :
    W (fun N => lp3 (s_pred_checker_tree_v739_1 N (SS_pred_checker_tree_v739 N) d (kdN n.Kind) n.Kind n.Op n.Var n.Name n.Val.Kind n.Val.N n.Val.Bits n.Val.Text) N 0 l (i : Int)) (· = ((kids p n.Kind d i).1, l, ((kids p n.Kind d i).2 : Int))) := by
  have hb := kdN_b n.Kind
  refine W.lp3 (N := fun N => N) (fun x y j => y = l ∧ ((x = 0 ∧ j = (i : Int)) ∨ (x = 1 ∧ kdN n.Kind ≠ 0 ∧ (p (kdW n.Kind 0) (d + 1) i).1 = 0 ∧ j = ((p (kdW n.Kind 0) (d + 1) i).2 : Int)) ∨
    (x = 2 ∧ kdN n.Kind = 2 ∧ (p (kdW n.Kind 0) (d + 1) i).1 = 0 ∧ (p (kdW n.Kind 1) (d + 1) (p (kdW n.Kind 0) (d + 1) i).2).1 = 0 ∧ j = ((p (kdW n.Kind 1) (d + 1) (p (kdW n.Kind 0) (d + 1) i).2).2 : Int)))) (fun x _ _ => (3 - x).toNat) ⟨rfl, .inl ⟨rfl, rfl⟩⟩ ?_
  rintro F x y j ⟨rfl, h⟩ hn
  simp only [s_pred_checker_tree_v739_1, e_kid, Option.bind_some, W.cond, W.gd, ltB_iff, ltB_not, i64b_eq, W.ret]
  rcases h with ⟨rfl, rfl⟩ | ⟨rfl, h1, h2, rfl⟩ | ⟨rfl, h1, h2, h3, rfl⟩
  · refine ⟨fun hx => ⟨by omega, ?_⟩, fun hx => ?_⟩
    · refine W.bind (hp _ i).lift ?_
      rintro _ rfl
      simp only [W.cond, W.gd, W.ret, i64b_eq]
      refine ⟨fun h0 => ?_, fun h0 => ⟨by omega, hn _ _ _ ⟨rfl, .inr (.inl ⟨rfl, by omega, by simpa using h0, rfl⟩)⟩ (by omega)⟩⟩
      have h0 : (p (kdW n.Kind 0) (d + 1) i).1 ≠ 0 := by simpa using h0
      rw [kids, if_neg (by omega), if_pos (.inl h0)]
    · rw [kids, if_pos (by omega)]
  · refine ⟨fun hx => ⟨by omega, ?_⟩, fun hx => ?_⟩
    · refine W.bind (hp _ _).lift ?_
      rintro _ rfl
      simp only [W.cond, W.gd, W.ret, i64b_eq]
      refine ⟨fun h0 => ?_, fun h0 => ⟨by omega, hn _ _ _ ⟨rfl, .inr (.inr ⟨rfl, by omega, h2, by simpa using h0, rfl⟩)⟩ (by omega)⟩⟩
      rw [kids, if_neg (by omega), if_neg (by intro h; rcases h with h | h <;> omega)]
    · rw [kids, if_neg h1, if_pos (.inr (by omega))]
      rw [h2]
  · refine ⟨fun hx => by omega, fun hx => ?_⟩
    rw [kids, if_neg (by omega), if_neg (by intro h; rcases h with h | h <;> omega), h3]
end
section
theorem r_kids {l : List pred_Node} {p : TF} {k : Int} {d : Int} {i : Nat} (hl : l.length ≤ 30) (hd0 : 0 ≤ d) (hd : d < 16) (hp : ∀ (w : Int) (j : Nat), W (fun N => (SS_ref11_tree N) l j (w + 1) (d + 1)) (· = (((p w (d + 1) j).2 : Int), (p w (d + 1) j).1))) :
    W (fun N => lp2 (s_ref11_tree_1 N (SS_ref11_tree N) l d k) N (i : Int) 0) (· = (((kids p k d i).2 : Int), (kids p k d i).1)) := by
  have hb := kdN_b k
  refine W.lp2 (N := fun N => N) (fun j x => ((x = 0 ∧ j = (i : Int)) ∨ (x = 1 ∧ kdN k ≠ 0 ∧ (p (kdW k 0) (d + 1) i).1 = 0 ∧ j = ((p (kdW k 0) (d + 1) i).2 : Int)) ∨
    (x = 2 ∧ kdN k = 2 ∧ (p (kdW k 0) (d + 1) i).1 = 0 ∧ (p (kdW k 1) (d + 1) (p (kdW k 0) (d + 1) i).2).1 = 0 ∧ j = ((p (kdW k 1) (d + 1) (p (kdW k 0) (d + 1) i).2).2 : Int)))) (fun _ x => (3 - x).toNat) (.inl ⟨rfl, rfl⟩) ?_
  rintro F j x h hn
  simp only [s_ref11_tree_1, e_rkids, e_rkid, Option.bind_some, W.cond, W.gd, ltB_iff, ltB_not, i64b_eq, W.ret]
  rcases h with ⟨rfl, rfl⟩ | ⟨rfl, h1, h2, rfl⟩ | ⟨rfl, h1, h2, h3, rfl⟩
  · refine ⟨fun hx => ⟨by omega, ?_⟩, fun hx => ?_⟩
    · refine W.bind (hp _ i).lift ?_
      rintro _ rfl
      simp only [W.cond, W.gd, W.ret, i64b_eq]
      refine ⟨fun h0 => ?_, fun h0 => ⟨by omega, hn _ _ (.inr (.inl ⟨rfl, by omega, by simpa using h0, rfl⟩)) (by omega)⟩⟩
      have h0 : (p (kdW k 0) (d + 1) i).1 ≠ 0 := by simpa using h0
      rw [kids, if_neg (by omega), if_pos (.inl h0)]
    · rw [kids, if_pos (by omega)]
  · refine ⟨fun hx => ⟨by omega, ?_⟩, fun hx => ?_⟩
    · refine W.bind (hp _ _).lift ?_
      rintro _ rfl
      simp only [W.cond, W.gd, W.ret, i64b_eq]
      refine ⟨fun h0 => ?_, fun h0 => ⟨by omega, hn _ _ (.inr (.inr ⟨rfl, by omega, h2, by simpa using h0, rfl⟩)) (by omega)⟩⟩
      rw [kids, if_neg (by omega), if_neg (by intro h; rcases h with h | h <;> omega)]
    · rw [kids, if_neg h1, if_pos (.inr (by omega))]
      rw [h2]
  · refine ⟨fun hx => by omega, fun hx => ?_⟩
    rw [kids, if_neg (by omega), if_neg (by intro h; rcases h with h | h <;> omega), h3]
def okN (l : List pred_Node) : Prop := ∀ n ∈ l, 0 ≤ n.Val.Bits ∧ n.Val.Bits ≤ 18446744073709551615
theorem nds_eq (n : pred_Node) : nds n = if bad n = true then 4 else if moreB n = true then 2 else 0 := by
  unfold nds
  cases bad n <;> cases moreB n <;> rfl
theorem p_tree {l : List pred_Node} (hl : l.length ≤ 30) : ∀ (n : Nat) (w d : Int) (i : Nat), 0 ≤ d → d ≤ 16 → 16 - d + 1 ≤ n → W (fun N => (SS_pred_checker_tree_v739 N) w d l i) (· = ((TR l n w d i).1, l, ((TR l n w d i).2 : Int)))
  | 0, w, d, i, h0, h1, h2 => by omega
  | n + 1, w, d, i, h0, h1, h2 => by
    refine W.shift ?_
    show W (fun N => b_pred_checker_tree_v739 N (SS_pred_checker_tree_v739 N) w d l i) _
    simp only [b_pred_checker_tree_v739, get_ix.1]
    show W _ (· = ((trS l (TR l n) w d i).1, l, ((trS l (TR l n) w d i).2 : Int)))
    unfold trS
    cases hg : l[i]? with
    | none => simp only [Option.isNone_none, cond_true, W.ret]
    | some nd =>
      have hi : i < 30 := by have := (List.getElem?_eq_some_iff.1 hg).1; omega
      simp only [Option.isNone_some, cond_false, get_ix.2 nd hg, Option.bind_some, leB_eq, e_stands]
      by_cases hd : 16 ≤ d
      · simp only [decide_eq_true hd, cond_true, if_pos hd, W.ret]
      simp only [decide_eq_false hd, cond_false, if_neg hd]
      cases hs : stB nd.Kind w with
      | false => simp only [Bool.not_false, cond_true, W.ret, if_true]
      | true =>
        simp only [Bool.not_true, cond_false, Bool.true_eq_false, if_false, s_pred_is_v782, s_pred_is_v272, s_pred_Node_more]
        refine W.bind (P := (· = if bad nd = true then (4 : Int) else 0)) ?_ ?_
        · refine W.call (w_lacks nd) ?_
          rintro _ rfl
          cases bad nd <;> simp [W.ret]
        rintro _ rfl
        rw [nds_eq]
        cases hb : bad nd with
        | true => simp [W.ret]
        | false =>
          cases hm : moreB nd with
          | true => simp [W.ret, hm]
          | false =>
            simp only [Bool.false_eq_true, if_false, show ((0 : Int) != 0) = false from rfl, cond_false, Option.bind_some, W.gd, i64b_eq, e_kids, ne_eq, not_true_eq_false]
            refine ⟨by omega, ?_⟩
            have := p_kids (l := l) (p := TR l n) (n := nd) (d := d) (i := i + 1) hl h0 (by omega) fun w j => p_tree hl n w (d + 1) j (by omega) (by omega) (by omega)
            simpa using this
theorem r_tree {l : List pred_Node} (hl : l.length ≤ 30) (hk : okN l) : ∀ (n : Nat) (w d : Int) (i : Nat), 0 ≤ d → d ≤ 16 → 16 - d + 1 ≤ n → W (fun N => (SS_ref11_tree N) l i (w + 1) d) (· = (((TR l n w d i).2 : Int), (TR l n w d i).1))
  | 0, w, d, i, h0, h1, h2 => by omega
  | n + 1, w, d, i, h0, h1, h2 => by
    refine W.shift ?_
    show W (fun N => b_ref11_tree N (SS_ref11_tree N) l i (w + 1) d) _
    simp only [b_ref11_tree, get_ix.1]
    show W _ (· = (((trS l (TR l n) w d i).2 : Int), (trS l (TR l n) w d i).1))
    unfold trS
    cases hg : l[i]? with
    | none => simp only [Option.isNone_none, cond_true, W.ret]
    | some nd =>
      have hi : i < 30 := by have := (List.getElem?_eq_some_iff.1 hg).1; omega
      have hmem : nd ∈ l := List.mem_of_getElem? hg
      simp only [Option.isNone_some, cond_false, get_ix.2 nd hg, Option.bind_some, leB_eq, e_may]
      by_cases hd : 16 ≤ d
      · simp only [decide_eq_true hd, cond_true, if_pos hd, W.ret]
      simp only [decide_eq_false hd, cond_false, if_neg hd]
      cases hs : stB nd.Kind w with
      | false => simp only [Bool.not_false, cond_true, W.ret, if_true]
      | true =>
        simp only [Bool.not_true, cond_false, Bool.true_eq_false, if_false]
        refine W.call (w_needs nd (hk nd hmem).1 (hk nd hmem).2) ?_
        rintro _ rfl
        by_cases h3 : nds nd = 0
        · simp only [h3, show ((0 : Int) != 0) = false from rfl, cond_false, W.gd, i64b_eq, ne_eq, not_true_eq_false, if_false]
          refine ⟨by omega, ?_⟩
          have := r_kids (l := l) (p := TR l n) (k := nd.Kind) (d := d) (i := i + 1) hl h0 (by omega) fun w j => r_tree hl hk n w (d + 1) j (by omega) (by omega) (by omega)
          simpa using this
        · simp only [show (nds nd != 0) = true by simpa using h3, cond_true, W.ret, ne_eq, h3, not_false_eq_true, if_true]
def chk (l : List pred_Node) : Int := if 30 < l.length then 5 else if l.length = 0 then 0 else if (TR l 17 0 0 0).1 ≠ 0 then (TR l 17 0 0 0).1 else if (TR l 17 0 0 0).2 < l.length then 5 else 0
theorem w_check (l : List pred_Node) : W (fun N => s_pred_Check N l) (· = chk l) := by
  simp only [s_pred_Check, chk, W.cond, ltB_iff, ltB_not, W.ret]
  refine ⟨fun h => by rw [if_pos (by omega)], fun h => ?_⟩
  rw [if_neg (by omega)]
  refine ⟨fun h2 => by rw [if_pos (by simpa using h2)], fun h2 => ?_⟩
  have h2 : ¬ l.length = 0 := by simpa using h2
  rw [if_neg h2]
  refine W.call (p_tree (l := l) (by omega) 17 0 0 0 (by omega) (by omega) (by omega)) ?_
  rintro _ rfl
  simp only [W.cond, W.ret, ltB_iff, ltB_not]
  refine ⟨fun h3 => by rw [if_pos (by simpa using h3)], fun h3 => ?_⟩
  rw [if_neg (by simpa using h3)]
  exact ⟨fun h4 => by rw [if_pos (by omega)], fun h4 => by rw [if_neg (by omega)]⟩
theorem w_rcheck (l : List pred_Node) (hk : okN l) : W (fun N => s_ref11_Check N l) (· = chk l) := by
  simp only [s_ref11_Check, chk, W.cond, ltB_iff, ltB_not, W.ret]
  refine ⟨fun h => by rw [if_pos (by omega)], fun h => ?_⟩
  rw [if_neg (by omega)]
  refine ⟨fun h2 => by rw [if_pos (by simpa using h2)], fun h2 => ?_⟩
  have h2 : ¬ l.length = 0 := by simpa using h2
  rw [if_neg h2]
  refine W.call (r_tree (l := l) (by omega) hk 17 0 0 0 (by omega) (by omega) (by omega)) ?_
  rintro _ rfl
  simp only [W.cond, W.ret, ltB_iff, ltB_not]
  refine ⟨fun h3 => by rw [if_pos (by simpa using h3)], fun h3 => ?_⟩
  rw [if_neg (by simpa using h3)]
  exact ⟨fun h4 => by rw [if_pos (by omega)], fun h4 => by rw [if_neg (by omega)]⟩
end
section
def zv : value_Value := ⟨0, 0, 0, []⟩
def isD (c : UInt8) : Bool := leB 48 (c.toNat : Int) && leB (c.toNat : Int) 57
/-- What a digit to the base 16 is worth. -/
def hx (c : UInt8) : Option Nat := if isD c then some (c.toNat - 48) else if leB 97 (c.toNat : Int) && leB (c.toNat : Int) 102 then some (c.toNat - 87) else none
/-! ### Small facts -/
end
section
theorem drop_eq {α : Type} {l : List α} {k : Nat} {e : α} (h : l[k]? = some e) : l.drop k = e :: l.drop (k + 1) := by
  obtain ⟨h1, h2⟩ := List.getElem?_eq_some_iff.1 h
  rw [List.drop_eq_getElem_cons h1, h2]
end
section
inductive TU where
  | own (n : List UInt8)
  | of (v n : List UInt8)
  | lit (v : value_Value)
inductive TS where
  | u (a : TU)
  | op (k : Bool) (s : TS) (a : TU)
inductive TT where
  | or (a b : TT)
  | and (a b : TT)
  | not (a : TT)
  | test (o : Int) (a b : TS)
def TU.nd : TU → pred_Node
  | .own n => ⟨7, 0, [], n, zv⟩
  | .of v n => ⟨8, 0, v, n, zv⟩
  | .lit v => ⟨9, 0, [], [], v⟩
def TS.fl : TS → List pred_Node
  | .u a => [a.nd]
  | .op k s a => bn (if k then 6 else 5) :: (s.fl ++ [a.nd])
def TT.fl : TT → List pred_Node
  | .or a b => bn 2 :: (a.fl ++ b.fl)
  | .and a b => bn 1 :: (a.fl ++ b.fl)
  | .not a => bn 3 :: a.fl
  | .test o a b => ⟨4, o, [], [], zv⟩ :: (a.fl ++ b.fl)
def TU.ok : TU → Prop
  | .own n => nm n = true
  | .of v n => nm v = true ∧ nm n = true
  | .lit v => vchk v = 0 ∧ 0 ≤ v.Bits ∧ v.Bits < 18446744073709551616
def TS.ok : TS → Prop
  | .u a => a.ok
  | .op _ s a => s.ok ∧ a.ok
def TT.ok : TT → Prop
  | .or a b => a.ok ∧ b.ok
  | .and a b => a.ok ∧ b.ok
  | .not a => a.ok
  | .test o a b => 1 ≤ o ∧ o ≤ 6 ∧ a.ok ∧ b.ok
def TT.ht : TT → Nat
  | .or a b => 1 + max a.ht b.ht
  | .and a b => 1 + max a.ht b.ht
  | .not a => 1 + a.ht
  | .test _ _ _ => 1
theorem moreZ_eq {v : value_Value} (h : moreZ v = true) : v = zv := by
  obtain ⟨a, b, c, d⟩ := v
  simp only [moreZ, Bool.and_eq_true, beq_iff_eq] at h
  obtain ⟨rfl, rfl, rfl, rfl⟩ := h; rfl
theorem nds_0 {n : pred_Node} (h : nds n = 0) : bad n = false ∧ moreB n = false := by
  unfold nds at h
  cases h1 : bad n <;> cases h2 : moreB n <;> rw [h1, h2] at h <;> first | exact ⟨rfl, rfl⟩ | cases h
theorem nd_bare {n : pred_Node} (h : nds n = 0) (h4 : n.Kind ≠ 4) (h7 : n.Kind ≠ 7) (h8 : n.Kind ≠ 8) (h9 : n.Kind ≠ 9) : n = bn n.Kind := by
  obtain ⟨k, o, v, nn, w⟩ := n
  have := (nds_0 h).2
  simp only [moreB, show (k == 4) = false by simpa using h4, show (k == 7) = false by simpa using h7, show (k == 8) = false by simpa using h8, show (k == 9) = false by simpa using h9, cond_false, Bool.not_eq_false', Bool.and_eq_true, beq_iff_eq] at this
  obtain ⟨rfl, rfl, rfl, hz⟩ := this
  rw [moreZ_eq hz]; rfl
theorem nd_test {n : pred_Node} (h : nds n = 0) (h4 : n.Kind = 4) : n = ⟨4, n.Op, [], [], zv⟩ ∧ 1 ≤ n.Op ∧ n.Op ≤ 6 := by
  obtain ⟨k, o, v, nn, w⟩ := n
  obtain ⟨h1, h2⟩ := nds_0 h
  simp only at h4; subst h4
  simp only [moreB, bad, show ((4 : Int) == 4) = true from rfl, cond_true, Bool.not_eq_false', Bool.and_eq_true, beq_iff_eq, leB_iff] at h1 h2
  obtain ⟨rfl, rfl, hz⟩ := h2
  rw [moreZ_eq hz]; exact ⟨rfl, h1⟩
theorem nd_unit {n : pred_Node} (h : nds n = 0) (hb : 0 ≤ n.Val.Bits ∧ n.Val.Bits ≤ 18446744073709551615) (hk : n.Kind = 7 ∨ n.Kind = 8 ∨ n.Kind = 9) : ∃ a : TU, a.ok ∧ n = a.nd := by
  obtain ⟨k, o, v, nn, w⟩ := n
  obtain ⟨h1, h2⟩ := nds_0 h
  simp only at hk hb
  rcases hk with rfl | rfl | rfl
  · simp only [moreB, bad, show ((7 : Int) == 4) = false from rfl, show ((7 : Int) == 7) = true from rfl, cond_true, cond_false, Bool.not_eq_false', Bool.and_eq_true, beq_iff_eq] at h1 h2
    obtain ⟨rfl, rfl, hz⟩ := h2
    rw [moreZ_eq hz]
    exact ⟨.own nn, h1, rfl⟩
  · simp only [moreB, bad, show ((8 : Int) == 4) = false from rfl, show ((8 : Int) == 7) = false from rfl, show ((8 : Int) == 8) = true from rfl, cond_true, cond_false, Bool.not_eq_false', Bool.and_eq_true, Bool.or_eq_false_iff, beq_iff_eq] at h1 h2
    obtain ⟨rfl, hz⟩ := h2
    rw [moreZ_eq hz]
    exact ⟨.of v nn, ⟨h1.2, h1.1⟩, rfl⟩
  · simp only [moreB, bad, show ((9 : Int) == 4) = false from rfl, show ((9 : Int) == 7) = false from rfl, show ((9 : Int) == 8) = false from rfl, show ((9 : Int) == 9) = true from rfl, cond_true, cond_false, Bool.not_eq_false', Bool.and_eq_true, beq_iff_eq, bne_eq_false_iff_eq] at h1 h2
    obtain ⟨rfl, rfl, rfl⟩ := h2
    exact ⟨.lit w, ⟨h1, hb.1, by omega⟩, rfl⟩
theorem tr_node {l : List pred_Node} {n : Nat} {w d : Int} {i j : Nat} (h : TR l (n + 1) w d i = (0, j)) : ∃ nd, l[i]? = some nd ∧ d < 16 ∧ stB nd.Kind w = true ∧ nds nd = 0 ∧ kids (TR l n) nd.Kind d (i + 1) = (0, j) := by
  simp only [TR, trS] at h
  cases hl : l[i]? with
  | none => rw [hl] at h; cases h
  | some nd =>
    rw [hl] at h; simp only at h
    by_cases h1 : 16 ≤ d
    · rw [if_pos h1] at h; cases h
    rw [if_neg h1] at h
    by_cases h2 : stB nd.Kind w = false
    · rw [if_pos h2] at h; cases h
    rw [if_neg h2] at h
    by_cases h3 : nds nd ≠ 0
    · rw [if_pos h3] at h; exact absurd (Prod.mk.inj h).1 h3
    rw [if_neg h3] at h
    exact ⟨nd, rfl, by omega, by simpa using h2, by simpa using h3, h⟩
theorem kids2 {p : TF} {k d : Int} {i j : Nat} (hk : kdN k = 2) (h : kids p k d i = (0, j)) : ∃ m, p (kdW k 0) (d + 1) i = (0, m) ∧ p (kdW k 1) (d + 1) m = (0, j) := by
  rw [kids, if_neg (by omega)] at h
  by_cases h0 : (p (kdW k 0) (d + 1) i).1 ≠ 0
  · rw [if_pos (.inl h0)] at h; rw [h] at h0; exact absurd rfl h0
  · rw [if_neg (by intro q; rcases q with q | q <;> omega)] at h
    exact ⟨_, Prod.ext (by simpa using h0) rfl, h⟩
theorem kids1 {p : TF} {k d : Int} {i j : Nat} (hk : kdN k = 1) (h : kids p k d i = (0, j)) : p (kdW k 0) (d + 1) i = (0, j) := by
  rwa [kids, if_neg (by omega), if_pos (.inr hk)] at h
theorem kids0 {p : TF} {k d : Int} {i j : Nat} (hk : kdN k = 0) (h : kids p k d i = (0, j)) : j = i := by
  rw [kids, if_pos hk] at h; cases h; rfl
theorem tr_tree {l : List pred_Node} (ho : okN l) : ∀ (n : Nat) (w d : Int) (i j : Nat), TR l n w d i = (0, j) →
    (w = 2 → ∃ a : TU, a.ok ∧ l.drop i = a.nd :: l.drop j ∧ j = i + 1) ∧
    (w = 1 → ∃ s : TS, s.ok ∧ l.drop i = s.fl ++ l.drop j ∧ j = i + s.fl.length) ∧
    (w = 0 → ∃ t : TT, t.ok ∧ l.drop i = t.fl ++ l.drop j ∧ j = i + t.fl.length ∧ d + t.ht ≤ 16)
  | 0, w, d, i, j, h => by simp only [TR] at h; cases h
  | n + 1, w, d, i, j, h => by
    obtain ⟨nd, hi, hd, hst, hn, hk⟩ := tr_node h
    have hdr := drop_eq hi
    have hb := ho nd (List.mem_of_getElem? hi)
    have unit : (nd.Kind = 7 ∨ nd.Kind = 8 ∨ nd.Kind = 9) → ∃ a : TU, a.ok ∧ l.drop i = a.nd :: l.drop j ∧ j = i + 1 := fun h3 => by
      obtain ⟨a, h4, h5⟩ := nd_unit hn hb h3
      obtain rfl := kids0 (by rcases h3 with h3 | h3 | h3 <;> rw [h3] <;> rfl) hk
      exact ⟨a, h4, by rw [hdr, h5], rfl⟩
    refine ⟨?_, ?_, ?_⟩
    · rintro rfl
      simp only [stB, show ((2 : Int) == 0) = false from rfl, show ((2 : Int) == 1) = false from rfl, cond_false, Bool.and_eq_true, leB_iff] at hst
      exact unit (by omega)
    · rintro rfl
      simp only [stB, show ((1 : Int) == 0) = false from rfl, show ((1 : Int) == 1) = true from rfl, cond_true, cond_false, Bool.and_eq_true, leB_iff] at hst
      by_cases h7 : 7 ≤ nd.Kind
      · obtain ⟨a, h4, h5, h6⟩ := unit (by omega)
        exact ⟨.u a, h4, h5, h6⟩
      · have key : ∀ b : Bool, nd.Kind = (if b then 6 else 5) → ∃ s : TS, s.ok ∧ l.drop i = s.fl ++ l.drop j ∧ j = i + s.fl.length := fun b hbk => by
          have h56 : nd.Kind = 5 ∨ nd.Kind = 6 := by cases b <;> simp at hbk <;> omega
          obtain ⟨m, k1, k2⟩ := kids2 (by rcases h56 with h | h <;> rw [h] <;> rfl) hk
          have e0 : kdW nd.Kind 0 = 1 := by rcases h56 with h | h <;> rw [h] <;> rfl
          have e1 : kdW nd.Kind 1 = 2 := by rcases h56 with h | h <;> rw [h] <;> rfl
          rw [e0] at k1; rw [e1] at k2
          obtain ⟨s, s1, s2, s3⟩ := (tr_tree ho n 1 (d + 1) (i + 1) m k1).2.1 rfl
          obtain ⟨a, a1, a2, a3⟩ := (tr_tree ho n 2 (d + 1) m j k2).1 rfl
          refine ⟨.op b s a, ⟨s1, a1⟩, ?_, ?_⟩
          · rw [hdr, s2, a2, nd_bare hn (by omega) (by omega) (by omega) (by omega), hbk]
            simp [TS.fl]
          · simp only [TS.fl, List.length_cons, List.length_append, List.length_nil]; omega
        by_cases h6 : nd.Kind = 6
        · exact key true h6
        · exact key false (by simp only [Bool.false_eq_true, if_false]; omega)
    · rintro rfl
      simp only [stB, show ((0 : Int) == 0) = true from rfl, cond_true, Bool.and_eq_true, leB_iff] at hst
      have two : (nd.Kind = 1 ∨ nd.Kind = 2) → ∃ a b : TT, a.ok ∧ b.ok ∧ l.drop i = bn nd.Kind :: (a.fl ++ b.fl) ++ l.drop j ∧ j = i + (1 + a.fl.length + b.fl.length) ∧ d + (1 + max a.ht b.ht : Nat) ≤ 16 := fun h12 => by
        obtain ⟨m, k1, k2⟩ := kids2 (by rcases h12 with h | h <;> rw [h] <;> rfl) hk
        have e0 : kdW nd.Kind 0 = 0 := by rcases h12 with h | h <;> rw [h] <;> rfl
        have e1 : kdW nd.Kind 1 = 0 := by rcases h12 with h | h <;> rw [h] <;> rfl
        rw [e0] at k1; rw [e1] at k2
        obtain ⟨a, a1, a2, a3, a4⟩ := (tr_tree ho n 0 (d + 1) (i + 1) m k1).2.2 rfl
        obtain ⟨b, b1, b2, b3, b4⟩ := (tr_tree ho n 0 (d + 1) m j k2).2.2 rfl
        refine ⟨a, b, a1, b1, ?_, by omega, by omega⟩
        rw [hdr, a2, b2]
        conv => lhs; rw [nd_bare hn (by omega) (by omega) (by omega) (by omega)]
        simp
      by_cases h1 : nd.Kind = 1
      · obtain ⟨a, b, q1, q2, q3, q4, q5⟩ := two (.inl h1)
        rw [h1] at q3
        exact ⟨.and a b, ⟨q1, q2⟩, q3, by simp only [TT.fl, List.length_cons, List.length_append]; omega, q5⟩
      by_cases h2 : nd.Kind = 2
      · obtain ⟨a, b, q1, q2, q3, q4, q5⟩ := two (.inr h2)
        rw [h2] at q3
        exact ⟨.or a b, ⟨q1, q2⟩, q3, by simp only [TT.fl, List.length_cons, List.length_append]; omega, q5⟩
      by_cases h3 : nd.Kind = 3
      · have k1 := kids1 (by rw [h3]; rfl) hk
        rw [show kdW nd.Kind 0 = 0 by rw [h3]; rfl] at k1
        obtain ⟨a, a1, a2, a3, a4⟩ := (tr_tree ho n 0 (d + 1) (i + 1) j k1).2.2 rfl
        refine ⟨.not a, a1, ?_, by simp only [TT.fl, List.length_cons]; omega, by simp only [TT.ht]; omega⟩
        rw [hdr, a2, nd_bare hn (by omega) (by omega) (by omega) (by omega), h3]; rfl
      · have h4 : nd.Kind = 4 := by omega
        obtain ⟨m, k1, k2⟩ := kids2 (by rw [h4]; rfl) hk
        rw [show kdW nd.Kind 0 = 1 by rw [h4]; rfl] at k1
        rw [show kdW nd.Kind 1 = 1 by rw [h4]; rfl] at k2
        obtain ⟨a, a1, a2, a3⟩ := (tr_tree ho n 1 (d + 1) (i + 1) m k1).2.1 rfl
        obtain ⟨b, b1, b2, b3⟩ := (tr_tree ho n 1 (d + 1) m j k2).2.1 rfl
        obtain ⟨g1, g2, g3⟩ := nd_test hn h4
        refine ⟨.test nd.Op a b, ⟨g2, g3, a1, b1⟩, ?_, by simp only [TT.fl, List.length_cons, List.length_append]; omega, by simp only [TT.ht]; omega⟩
        rw [hdr, a2, b2]
        conv => lhs; rw [g1]
        simp [TT.fl]
theorem chk_tree {l : List pred_Node} (ho : okN l) (h : chk l = 0) (hl : l ≠ []) : ∃ t : TT, t.ok ∧ l = t.fl ∧ t.ht ≤ 16 ∧ l.length ≤ 30 := by
  have h0 : ¬ l.length = 0 := fun h => hl (List.eq_nil_of_length_eq_zero h)
  unfold chk at h
  by_cases h1 : 30 < l.length
  · rw [if_pos h1] at h; cases h
  rw [if_neg h1, if_neg h0] at h
  by_cases h2 : (TR l 17 0 0 0).1 ≠ 0
  · rw [if_pos h2] at h; exact absurd h h2
  rw [if_neg h2] at h
  by_cases h3 : (TR l 17 0 0 0).2 < l.length
  · rw [if_pos h3] at h; cases h
  obtain ⟨t, t1, t2, t3, t4⟩ := (tr_tree ho 17 0 0 0 (TR l 17 0 0 0).2 (Prod.ext (by simpa using h2) rfl)).2.2 rfl
  refine ⟨t, t1, ?_, by omega, by omega⟩
  rw [List.drop_eq_nil_of_le (by omega : l.length ≤ (TR l 17 0 0 0).2), List.append_nil, List.drop_zero] at t2
  exact t2
end
section
/-- A token without its place. -/
abbrev Tk := Int × List UInt8 × value_Value
def ke (t : lex_Token) : Tk := (t.Kind, t.Text, t.Val)
def sg (s : List UInt8) : Tk := (4, s, zv)
def kw (s : List UInt8) : Tk := (2, s, zv)
def M (y : List lex_Token) : Nat → List Tk → Prop
  | _, [] => True
  | i, t :: ts => ke (tk y i) = t ∧ M y (i + 1) ts
def TU.tk : TU → List Tk
  | .own n => [(1, n, zv)]
  | .of v n => [(1, v, zv), sg [46], (1, n, zv)]
  | .lit v => if v.Kind = 1 ∧ v.N < 0 then [sg [45], (3, [], ⟨1, -v.N, 0, []⟩)] else [(3, [], v)]
def TS.tk : TS → List Tk
  | .u a => a.tk
  | .op k s a => s.tk ++ sg (if k then [45] else [43]) :: a.tk
def TT.bd : TT → Nat
  | .or _ _ => 1
  | .and _ _ => 2
  | _ => 3
def brk (c : Bool) (l : List Tk) : List Tk := if c then sg [40] :: (l ++ [sg [41]]) else l
def TT.tk : TT → List Tk
  | .or a b => brk (decide (a.bd < 1)) a.tk ++ kw [111, 114] :: brk (decide (b.bd < 2)) b.tk
  | .and a b => brk (decide (a.bd < 2)) a.tk ++ kw [97, 110, 100] :: brk (decide (b.bd < 3)) b.tk
  | .not a => kw [110, 111, 116] :: brk (decide (a.bd < 3)) a.tk
  | .test o a b => a.tk ++ sg (sgV o) :: b.tk
end
section
inductive GT where
  | leaf (neg : Bool) (v t : List UInt8) (o : Option TT)
  | rep (lo hi : Int) (a : GT)
  | lst (alt : Bool) (bs : List GT)
def kA (alt : Bool) : Int := if alt then 2 else 1
def kL (neg : Bool) : Int := if neg then 5 else 4
def oT : Option TT → List pred_Node
  | none => []
  | some t => t.fl
def oK : Option TT → Prop
  | none => True
  | some t => t.ok ∧ t.ht ≤ 16 ∧ t.fl.length ≤ 30 ∧ chk t.fl = 0
theorem oT_of {l : List pred_Node} (ho : okN l) (h : chk l = 0) : ∃ o, oK o ∧ l = oT o := by
  by_cases hl : l = []
  · exact ⟨none, trivial, hl⟩
  · obtain ⟨t, h1, h2, h3, h4⟩ := chk_tree ho h hl
    exact ⟨some t, ⟨h1, h3, h2 ▸ h4, h2 ▸ h⟩, h2⟩
mutual
def GT.fl : GT → List shape_Node
  | .leaf neg v t o => [⟨kL neg, 0, 0, 0, v, t, oT o⟩]
  | .rep lo hi a => ⟨3, 1, lo, hi, [], [], []⟩ :: GT.fl a
  | .lst alt bs => ⟨kA alt, (bs.length : Int), 0, 0, [], [], []⟩ :: GT.fls bs
def GT.fls : List GT → List shape_Node
  | [] => []
  | a :: r => GT.fl a ++ GT.fls r
end
mutual
def GT.ok : GT → Int → Prop
  | .leaf neg v t o, w => (neg = true → w ≠ 3) ∧ nm v = true ∧ nm t = true ∧ oK o
  | .rep lo hi a, w => (0 ≤ lo ∧ lo ≤ 8 ∧ 0 ≤ hi ∧ hi ≤ 8 ∧ ¬ (lo = 1 ∧ hi = 1) ∧ (hi = 0 ∨ lo ≤ hi)) ∧ GT.ok a 3
  | .lst alt bs, w => kA alt ≠ w ∧ 2 ≤ bs.length ∧ bs.length ≤ 40 ∧ GT.oks bs (kA alt)
def GT.oks : List GT → Int → Prop
  | [], _ => True
  | a :: r, w => GT.ok a w ∧ GT.oks r w
end
mutual
def GT.dp : GT → Nat
  | .leaf .. => 1
  | .rep _ _ a => GT.dp a + 1
  | .lst _ bs => GT.dps bs + 1
def GT.dps : List GT → Nat
  | [] => 0
  | a :: r => max (GT.dp a) (GT.dps r)
end
theorem fls_app : ∀ (a b : List GT), GT.fls (a ++ b) = GT.fls a ++ GT.fls b
  | [], b => rfl
  | x :: a, b => by simp only [List.cons_append, GT.fls, fls_app a b, List.append_assoc]
section
variable (n : shape_Node)
def isLs : Bool := n.Kind == 1 || n.Kind == 2
theorem e_ls (N : Nat) : s_shape_Node_list N n = some (isLs n) := by
  simp only [s_shape_Node_list, isLs]; cases n.Kind == 1 <;> rfl
def stG (w : Int) : Bool := !(ltB n.Kind 1) && (!(ltB 5 n.Kind) && (if isLs n = true then n.Kind != w else (n.Kind != 5 || w != 3)))
theorem e_stG (w : Int) (N : Nat) : s_shape_Node_stands N n w = some (stG n w) := by
  simp only [s_shape_Node_stands, e_ls, Option.bind_some, stG]
  cases ltB n.Kind 1 <;> cases ltB 5 n.Kind <;> cases isLs n <;> simp
  cases h : (n.Kind != 5) <;> simp_all
def ofG : Bool := !(ltB n.Lo 0) && (!(ltB 8 n.Lo) && (!(ltB n.Hi 0) && (!(ltB 8 n.Hi) && (!((n.Lo == 1) && (n.Hi == 1)) && ((n.Hi == 0) || leB n.Lo n.Hi)))))
theorem e_ofG (N : Nat) : s_shape_Node_often N n = some (ofG n) := by
  simp only [s_shape_Node_often, ofG]
  cases ltB n.Lo 0 <;> cases ltB 8 n.Lo <;> cases ltB n.Hi 0 <;> cases ltB 8 n.Hi <;> cases n.Lo == 1 <;> cases n.Hi == 1 <;> cases n.Hi == 0 <;> rfl
def lkG : Bool := if isLs n = true then (ltB n.Kids 2 || ltB 40 n.Kids) else if n.Kind = 3 then (n.Kids != 1 || !ofG n) else (!nm n.Var || (!nm n.Type_ || chk n.Test != 0))
theorem w_lkG : W (fun N => s_shape_Node_lacks N n) (· = lkG n) := by
  simp only [s_shape_Node_lacks, e_ls, Option.bind_some, e_ofG, lkG]
  cases h : isLs n
  · simp only [cond_false, Bool.false_eq_true, if_false]
    by_cases h3 : n.Kind = 3
    · simp only [h3, beq_self_eq_true, cond_true, if_true]
      cases n.Kids != 1 <;> simp [W.ret]
    · simp only [show (n.Kind == 3) = false by simpa using h3, cond_false, if_neg h3]
      refine W.call (w_schema_Name _) ?_
      rintro _ rfl
      cases nm n.Var
      · simp [W.ret]
      · simp only [Bool.not_true, cond_false, Bool.false_or]
        refine W.call (w_schema_Name _) ?_
        rintro _ rfl
        cases nm n.Type_
        · simp [W.ret]
        · simp only [Bool.not_true, cond_false, Bool.false_or]
          refine W.call (w_check _) ?_
          rintro _ rfl
          simp only [W.ret]
  · simp only [cond_true, if_true]
    cases ltB n.Kids 2 <;> simp [W.ret]
def lfG : Bool := n.Kind == 4 || n.Kind == 5
theorem e_lf (N : Nat) : s_shape_Node_leaf N n = some (lfG n) := by
  simp only [s_shape_Node_leaf, lfG]; cases n.Kind == 4 <;> rfl
def moG : Bool := if lfG n = true then (n.Lo != 0 || n.Hi != 0 || n.Kids != 0) else ((!(n.Var == []) || !(n.Type_ == []) || ltB 0 (n.Test.length : Int)) || (n.Lo != 0 || n.Hi != 0) && n.Kind != 3)
theorem e_moG (N : Nat) : s_shape_Node_more N n = some (moG n) := by
  simp only [s_shape_Node_more, e_lf, Option.bind_some, moG]
  cases n.Lo != 0 <;> cases n.Hi != 0 <;> cases n.Var == [] <;> cases n.Type_ == [] <;> cases lfG n <;> cases ltB 0 (n.Test.length : Int) <;> rfl
def kdG : Int := if isLs n = true then max 0 (min n.Kids 40) else if n.Kind = 3 then 1 else 0
theorem e_kdG (N : Nat) : s_shape_Node_kids N n = some (kdG n) := by
  simp only [s_shape_Node_kids, e_ls, Option.bind_some, kdG]
  cases isLs n
  · by_cases h : n.Kind = 3
    · simp [h]
    · simp [h, show (n.Kind == 3) = false by simpa using h]
  · simp
end
/-- What a node is that may stand. -/
theorem node_ok {n : shape_Node} {w : Int} (h1 : stG n w = true) (h2 : lkG n = false) (h3 : moG n = false) :
    (∃ neg v t l, n = ⟨kL neg, 0, 0, 0, v, t, l⟩ ∧ (neg = true → w ≠ 3) ∧ nm v = true ∧ nm t = true ∧ chk l = 0 ∧ kdG n = 0) ∨
    (∃ lo hi, n = ⟨3, 1, lo, hi, [], [], []⟩ ∧ (0 ≤ lo ∧ lo ≤ 8 ∧ 0 ≤ hi ∧ hi ≤ 8 ∧ ¬ (lo = 1 ∧ hi = 1) ∧ (hi = 0 ∨ lo ≤ hi)) ∧ kdG n = 1) ∨
    (∃ alt k, n = ⟨kA alt, k, 0, 0, [], [], []⟩ ∧ kA alt ≠ w ∧ 2 ≤ k ∧ k ≤ 40 ∧ kdG n = k) := by
  obtain ⟨K, k, lo, hi, v, t, l⟩ := n
  simp only [stG, Bool.and_eq_true, Bool.not_eq_true', ltB_eq, decide_eq_false_iff_not] at h1
  obtain ⟨a1, a2, a3⟩ := h1
  have hK : K = 1 ∨ K = 2 ∨ K = 3 ∨ K = 4 ∨ K = 5 := by omega
  rcases hK with rfl | rfl | rfl | rfl | rfl
  · refine .inr (.inr ⟨false, k, ?_⟩)
    simp [isLs, lkG, moG, lfG, kA, kdG, ltB_eq] at a3 h2 h3 ⊢
    obtain ⟨⟨⟨h5, h6⟩, h7⟩, h8, h9⟩ := h3
    exact ⟨⟨h8, h9, h5, h6, h7⟩, a3, h2.1, h2.2, by omega⟩
  · refine .inr (.inr ⟨true, k, ?_⟩)
    simp [isLs, lkG, moG, lfG, kA, kdG, ltB_eq] at a3 h2 h3 ⊢
    obtain ⟨⟨⟨h5, h6⟩, h7⟩, h8, h9⟩ := h3
    exact ⟨⟨h8, h9, h5, h6, h7⟩, a3, h2.1, h2.2, by omega⟩
  · refine .inr (.inl ⟨lo, hi, ?_⟩)
    simp [isLs, lkG, moG, lfG, kA, kdG, ltB_eq, leB_eq, ofG] at a3 h2 h3 ⊢
    obtain ⟨⟨h5, h6⟩, h7⟩ := h3
    obtain ⟨q0, q1, q2, q3, q4, q5, q6⟩ := h2
    exact ⟨⟨q0, h5, h6, h7⟩, q1, q2, q3, q4, q5, by omega⟩
  · refine .inl ⟨false, v, t, l, ?_⟩
    simp [isLs, lkG, moG, lfG, kL, kdG] at a3 h2 h3 ⊢
    exact ⟨⟨h3.2, h3.1.1, h3.1.2⟩, h2⟩
  · refine .inl ⟨true, v, t, l, ?_⟩
    simp [isLs, lkG, moG, lfG, kL, kdG] at a3 h2 h3 ⊢
    exact ⟨⟨h3.2, h3.1.1, h3.1.2⟩, a3, h2⟩
/-- The check of a tree, and of so many of them. -/
abbrev TGF := List shape_Node → Int → Int → List shape_Node × Int
def kidsG (f : List shape_Node → List shape_Node × Int) : Nat → List shape_Node → List shape_Node × Int
  | 0, r => (r, 0)
  | k + 1, r => if (f r).2 = 0 then kidsG f k (f r).1 else ([], (f r).2)
def TG : Nat → TGF
  | 0 => fun _ _ _ => ([], 15)
  | n + 1 => fun l w d => match l with
    | [] => ([], 3)
    | e :: r => if 16 ≤ d then ([], 15) else if stG e w = false then ([], 11) else if lkG e = true then ([], 4) else if moG e = true then ([], 2) else kidsG (fun r => TG n r e.Kind (d + 1)) (kdG e).toNat r
theorem kdG_le (e : shape_Node) : 0 ≤ kdG e ∧ kdG e ≤ 40 := by
  unfold kdG
  split
  · omega
  · split <;> omega
theorem w_treeG : ∀ (n : Nat) (l : List shape_Node) (w d : Int), 0 ≤ d → d ≤ 16 → 17 - d ≤ n → W (fun N => (SS_shape_tree N) l w d) (· = TG n l w d)
  | 0, l, w, d, h1, h2, h3 => by omega
  | n + 1, l, w, d, h1, h2, h3 => by
    refine W.shift ?_
    show W (fun N => b_shape_tree N (SS_shape_tree N) l w d) _
    cases l with
    | nil => exact wall fun _ => rfl
    | cons e r =>
      have e0 : ix (e :: r) 0 = some e := rfl
      have el : ((List.length (e :: r) : Int) == 0) = false := by simp only [List.length_cons]; simpa using (by omega : ¬ ((r.length : Int) + 1 = 0))
      have eg : leB 1 (List.length (e :: r) : Int) = true := leB_iff.2 (by simp only [List.length_cons]; omega)
      simp only [b_shape_tree, el, cond_false, e0, Option.bind_some, e_stG, e_moG, e_kdG, eg, gd_true, TG]
      by_cases hd : 16 ≤ d
      · simp only [show leB 16 d = true from leB_iff.2 hd, cond_true, if_pos hd, W.ret]
      have hd' : leB 16 d = false := by rw [leB_eq]; simpa using hd
      simp only [hd', cond_false, if_neg hd]
      cases hs : stG e w
      · simp [W.ret]
      simp only [Bool.not_true, cond_false, Bool.true_eq_false, if_false]
      refine W.call (w_lkG e) ?_
      rintro _ rfl
      cases hk : lkG e
      rotate_left
      · simp [W.ret]
      simp only [cond_false, Bool.false_eq_true, if_false]
      cases hm : moG e
      rotate_left
      · simp [W.ret]
      simp only [cond_false, Bool.false_eq_true, if_false]
      obtain ⟨k0, k1⟩ := kdG_le e
      refine W.lp2 (P := fun rest x => 0 ≤ x ∧ x ≤ kdG e ∧ kidsG (fun r => TG n r e.Kind (d + 1)) (kdG e - x).toNat rest = kidsG (fun r => TG n r e.Kind (d + 1)) (kdG e).toNat r) (m := fun _ x => (kdG e - x).toNat) ⟨by omega, by omega, by simp⟩ ?_
      rintro F rest x ⟨x0, x1, x2⟩ hn
      simp only [s_shape_tree_1]
      by_cases hx : x < kdG e
      · obtain ⟨m, hm⟩ : ∃ m, (kdG e - x).toNat = m + 1 := ⟨(kdG e - x).toNat - 1, by omega⟩
        simp only [show ltB x (kdG e) = true from ltB_iff.2 hx, cond_true, W.gd, i64b_eq]
        refine ⟨by omega, W.bind (W.lift (w_treeG n rest e.Kind (d + 1) (by omega) (by omega) (by omega))) ?_⟩
        rintro _ rfl
        rw [hm, kidsG] at x2
        by_cases hc : (TG n rest e.Kind (d + 1)).2 = 0
        · rw [if_pos hc] at x2
          simp only [show ((TG n rest e.Kind (d + 1)).2 != 0) = false by simpa using hc, cond_false, W.gd, i64b_eq]
          refine ⟨by omega, hn _ _ ⟨by omega, by omega, ?_⟩ (by omega)⟩
          rw [show (kdG e - (x + 1)).toNat = m by omega]
          exact x2
        · rw [if_neg hc] at x2
          simp only [show ((TG n rest e.Kind (d + 1)).2 != 0) = true by simpa using hc, cond_true, W.ret]
          exact x2
      · obtain rfl : x = kdG e := by omega
        have : ltB (kdG e) (kdG e) = false := by rw [ltB_eq]; simp
        simp only [this, cond_false, W.ret]
        rw [Int.sub_self] at x2
        exact x2
def wdS (m : Int) : List UInt8 := if m = 1 then [97, 110, 121] else if m = 2 then [110, 101, 120, 116] else if m = 3 then [115, 116, 114, 105, 99, 116] else []
theorem e_wd (m : Int) (N : Nat) : s_shape_Word N m = some (wdS m) := by
  simp only [s_shape_Word, wdS]
  by_cases h1 : m = 1
  · subst h1; rfl
  by_cases h2 : m = 2
  · subst h2; rfl
  by_cases h3 : m = 3
  · subst h3; rfl
  simp [h1, h2, h3, show (m == 1) = false by simpa using h1, show (m == 2) = false by simpa using h2, show (m == 3) = false by simpa using h3]
def chkG (p : shape_Pattern) : Int :=
  if 40 < p.Body.length then 5 else if (TG 17 p.Body 0 0).2 ≠ 0 then (TG 17 p.Body 0 0).2 else if 0 < (TG 17 p.Body 0 0).1.length then 5
  else if p.Within < 1 then 8 else if 1073741824 < p.Within then 8 else if p.By ≠ [] ∧ nm p.By = false then 4 else if wdS p.Mode = [] then 11 else 0
theorem w_shCheck (p : shape_Pattern) : W (fun N => s_shape_Check N p) (· = chkG p) := by
  simp only [s_shape_Check, e_wd, Option.bind_some]
  unfold chkG
  by_cases h0 : 40 < p.Body.length
  · simp only [show ltB 40 (p.Body.length : Int) = true from ltB_iff.2 (by omega), cond_true, if_pos h0, W.ret]
  have g0 : ltB 40 (p.Body.length : Int) = false := by rw [ltB_eq]; exact decide_eq_false (by omega)
  simp only [g0, cond_false, if_neg h0, s_shape_tree]
  refine W.call (w_treeG 17 p.Body 0 0 (by omega) (by omega) (by omega)) ?_
  rintro _ rfl
  generalize TG 17 p.Body 0 0 = q
  by_cases h1 : q.2 = 0
  rotate_left
  · simp only [show (q.2 != 0) = true by simpa using h1, cond_true, if_pos h1, W.ret]
  simp only [show (q.2 != 0) = false by simpa using h1, cond_false, if_neg (show ¬ q.2 ≠ 0 from fun h => h h1)]
  by_cases h2 : 0 < q.1.length
  · simp only [show ltB 0 (q.1.length : Int) = true from ltB_iff.2 (by omega), cond_true, if_pos h2, W.ret]
  have g2 : ltB 0 (q.1.length : Int) = false := by rw [ltB_eq]; exact decide_eq_false (by omega)
  simp only [g2, cond_false, if_neg h2]
  by_cases h3 : p.Within < 1
  · simp only [show ltB p.Within 1 = true from ltB_iff.2 h3, cond_true, if_pos h3, W.ret]
  have g3 : ltB p.Within 1 = false := by rw [ltB_eq]; exact decide_eq_false h3
  simp only [g3, cond_false, if_neg h3]
  by_cases h4 : 1073741824 < p.Within
  · simp only [show ltB 1073741824 p.Within = true from ltB_iff.2 h4, cond_true, if_pos h4, W.ret]
  have g4 : ltB 1073741824 p.Within = false := by rw [ltB_eq]; exact decide_eq_false h4
  simp only [g4, cond_false, if_neg h4]
  by_cases h5 : p.By = []
  · simp only [h5, show (!(([] : List UInt8) == [])) = false from rfl, cond_false, if_neg (show ¬ (([] : List UInt8) ≠ [] ∧ _) from fun h => h.1 rfl)]
    by_cases h6 : wdS p.Mode = []
    · simp [h6, W.ret]
    · simp [h6, W.ret, show (wdS p.Mode == []) = false by simpa using h6]
  · simp only [show (!(p.By == [])) = true by simpa using h5, cond_true]
    refine W.call (w_schema_Name _) ?_
    rintro _ rfl
    cases h6 : nm p.By
    · simp [h5, W.ret]
    · simp only [Bool.not_true, cond_false]
      by_cases h7 : wdS p.Mode = []
      · simp [h7, W.ret]
      · simp [h7, W.ret, show (wdS p.Mode == []) = false by simpa using h7]
/-- A body that may be is that of a tree. -/
theorem kids_sound {w : Int} {f : List shape_Node → List shape_Node × Int} {D : Nat} (hf : ∀ l r, (∀ n ∈ l, okN n.Test) → f l = (r, 0) → ∃ t : GT, t.ok w ∧ t.dp ≤ D ∧ l = t.fl ++ r) : ∀ (k : Nat) (l r : List shape_Node), (∀ n ∈ l, okN n.Test) → kidsG f k l = (r, 0) → ∃ bs : List GT, bs.length = k ∧ GT.oks bs w ∧ GT.dps bs ≤ D ∧ l = GT.fls bs ++ r
  | 0, l, r, _, h => by cases h; exact ⟨[], rfl, trivial, Nat.zero_le _, rfl⟩
  | k + 1, l, r, hb, h => by
    rw [kidsG] at h
    split at h
    · rename_i hc
      obtain ⟨t, q1, q2, q3⟩ := hf l (f l).1 hb (by rw [← hc])
      obtain ⟨bs, p1, p2, p3, p4⟩ := kids_sound hf k _ _ (fun n hn => hb n (by rw [q3]; exact List.mem_append_right _ hn)) h
      exact ⟨t :: bs, by simp [p1], ⟨q1, p2⟩, by simp only [GT.dps]; omega, by rw [GT.fls, List.append_assoc, ← p4, ← q3]⟩
    · rename_i hc
      exact absurd (Prod.mk.inj h).2 hc
theorem tg_sound : ∀ (n : Nat) (l r : List shape_Node) (w : Int) (d : Nat), (∀ n ∈ l, okN n.Test) → TG n l w d = (r, 0) → ∃ t : GT, t.ok w ∧ t.dp + d ≤ 16 ∧ l = t.fl ++ r
  | 0, l, r, w, d, _, h => by cases h
  | n + 1, [], r, w, d, _, h => by cases h
  | n + 1, e :: l, r, w, d, hb, h => by
    simp only [TG] at h
    split at h
    · cases h
    rename_i hd
    split at h
    · cases h
    rename_i hs
    split at h
    · cases h
    rename_i hk
    split at h
    · cases h
    rename_i hm
    have ih : ∀ l r, (∀ n ∈ l, okN n.Test) → TG n l e.Kind ((d : Int) + 1) = (r, 0) → ∃ t : GT, t.ok e.Kind ∧ t.dp ≤ 15 - d ∧ l = t.fl ++ r := fun l r hb hh => by
      obtain ⟨t, q1, q2, q3⟩ := tg_sound n l r e.Kind (d + 1) hb (by rw [← hh]; congr 1)
      exact ⟨t, q1, by omega, q3⟩
    obtain ⟨bs, p1, p2, p3, p4⟩ := kids_sound ih _ _ _ (fun n hn => hb n (List.mem_cons_of_mem _ hn)) h
    rcases node_ok (by simpa using hs) (by simpa using hk) (by simpa using hm) with ⟨neg, v, t, l', rfl, g1, g2, g3, g4, g5⟩ | ⟨lo, hi, rfl, g1, g2⟩ | ⟨alt, k, rfl, g1, g2, g3, g4⟩
    · rw [g5] at p1
      obtain rfl : bs = [] := List.length_eq_zero_iff.1 p1
      obtain ⟨o, k1, rfl⟩ := oT_of (hb _ (List.mem_cons_self ..)) g4
      exact ⟨.leaf neg v t o, ⟨g1, g2, g3, k1⟩, by simp only [GT.dp]; omega, by rw [p4]; rfl⟩
    · rw [g2] at p1
      obtain ⟨a, rfl⟩ : ∃ a, bs = [a] := List.length_eq_one_iff.1 p1
      exact ⟨.rep lo hi a, ⟨g1, p2.1⟩, by simp only [GT.dp, GT.dps] at p3 ⊢; omega, by rw [p4]; simp [GT.fl, GT.fls]⟩
    · rw [g4] at p1
      have hb : (bs.length : Int) = k := by omega
      exact ⟨.lst alt bs, ⟨g1, by omega, by omega, p2⟩, by simp only [GT.dp]; omega, by rw [p4, ← hb]; rfl⟩
theorem chkG_tree {p : shape_Pattern} (hb : ∀ n ∈ p.Body, okN n.Test) (h : chkG p = 0) : p.Body.length ≤ 40 ∧ 1 ≤ p.Within ∧ p.Within ≤ 1073741824 ∧ (p.By = [] ∨ nm p.By = true) ∧ (p.Mode = 1 ∨ p.Mode = 2 ∨ p.Mode = 3) ∧ ∃ t : GT, t.ok 0 ∧ t.dp ≤ 16 ∧ p.Body = t.fl := by
  unfold chkG at h
  split at h
  · cases h
  split at h
  · rename_i q; exact absurd h q
  split at h
  · cases h
  split at h
  · cases h
  split at h
  · cases h
  split at h
  · cases h
  split at h
  · cases h
  rename_i h1 h2 h3 h4 h5 h6 h7
  have hr : (TG 17 p.Body 0 0).1 = [] := List.length_eq_zero_iff.1 (by omega)
  obtain ⟨t, q1, q2, q3⟩ := tg_sound 17 p.Body [] 0 0 hb (Prod.ext hr (by simpa using h2))
  refine ⟨by omega, by omega, by omega, ?_, ?_, t, q1, q2, by simpa using q3⟩
  · by_cases hb : p.By = []
    · exact .inl hb
    · exact .inr (by simpa [hb] using h6)
  · unfold wdS at h7
    by_cases a1 : p.Mode = 1
    · exact .inl a1
    by_cases a2 : p.Mode = 2
    · exact .inr (.inl a2)
    by_cases a3 : p.Mode = 3
    · exact .inr (.inr a3)
    simp [a1, a2, a3] at h7
end
section
theorem e_rkdG (n : shape_Node) (N : Nat) : s_ref13_Kids N n = some (kdG n) := by
  simp only [s_ref13_Kids, kdG, isLs, Int.min_comm n.Kids 40]
  by_cases h1 : n.Kind = 1
  · simp [h1]
  by_cases h2 : n.Kind = 2
  · simp [h2]
  by_cases h3 : n.Kind = 3
  · simp [h3]
  · simp [h1, h2, h3, show (n.Kind == 1) = false by simpa using h1, show (n.Kind == 2) = false by simpa using h2, show (n.Kind == 3) = false by simpa using h3]
theorem e_rwd (m : Int) (N : Nat) : s_ref13_Word N m = some (wdS m) := by
  simp only [s_ref13_Word, wdS]
  by_cases h1 : m = 1
  · subst h1; rfl
  by_cases h2 : m = 2
  · subst h2; rfl
  by_cases h3 : m = 3
  · subst h3; rfl
  simp [h1, h2, h3, show (m == 1) = false by simpa using h1, show (m == 2) = false by simpa using h2, show (m == 3) = false by simpa using h3]
def ndG (n : shape_Node) : Int := if lkG n = true then 4 else if moG n = true then 2 else 0
theorem e_j4 {N : Nat} {leaf : Bool} {k kids lo hi : Int} {v t : List UInt8} {te : List pred_Node} (hk : leaf = (k == 4 || k == 5)) (x : Bool) :
    s_ref13_needs_j4 N leaf x k kids lo hi v t te = some (if x = true then 4 else if (if leaf = true then (lo != 0 || hi != 0 || kids != 0) else ((!(v == []) || !(t == []) || ltB 0 (te.length : Int)) || (lo != 0 || hi != 0) && k != 3)) = true then 2 else 0) := by
  cases x
  rotate_left
  · rfl
  simp only [s_ref13_needs_j4, s_ref13_needs_k5, s_ref13_needs_k6, cond_false, Bool.false_eq_true, if_false]
  cases leaf
  · cases h3 : k != 3 <;> cases h1 : lo != 0 <;> cases h2 : hi != 0 <;> cases hv : v == [] <;> cases ht : t == [] <;> cases hz : ltB 0 (te.length : Int) <;> rfl
  · have h3 : (k != 3) = true := by
      have : k = 4 ∨ k = 5 := by simpa using hk.symm
      simp; omega
    rw [h3]
    cases h0 : kids != 0 <;> cases h1 : lo != 0 <;> cases h2 : hi != 0 <;> rfl
theorem w_need13 {n : shape_Node} (h1 : 1 ≤ n.Kind) (h5 : n.Kind ≤ 5) (ho : okN n.Test) : W (fun N => s_ref13_needs N n) (· = ndG n) := by
  obtain ⟨k, kids, lo, hi, v, t, te⟩ := n
  simp only at h1 h5 ho
  -- what is told if it is a leaf
  have leaf : ∀ k : Int, k = 4 ∨ k = 5 → W (fun N => s_ref13_needs_j2 N true false k kids lo hi v t te) (· = ndG ⟨k, kids, lo, hi, v, t, te⟩) := fun k hk => by
    have e3 : (k == 3) = false := by simp; omega
    have el : (k == 4 || k == 5) = true := by simpa using hk
    have e1 : (k == 1 || k == 2) = false := by simp; omega
    simp only [s_ref13_needs_j2, cond_false, e3, s_ref13_needs_j3, cond_true, e_j4 (leaf := true) (k := k) el.symm, ndG, lkG, isLs, e1, Bool.false_eq_true, if_false, show ¬ k = 3 by omega, moG, lfG, el, if_true]
    refine W.call (w_ref06_Name v) ?_
    rintro _ rfl
    cases nm v
    · exact W.ret.2 rfl
    refine W.call (w_ref06_Name t) ?_
    rintro _ rfl
    cases nm t
    · exact W.ret.2 rfl
    refine W.call (w_rcheck te ho) ?_
    rintro _ rfl
    exact W.ret.2 rfl
  have list : ∀ k : Int, k = 1 ∨ k = 2 → W (fun N => s_ref13_needs_j1 N false true k kids lo hi v t te) (· = ndG ⟨k, kids, lo, hi, v, t, te⟩) := fun k hk => by
    have e3 : (k == 3) = false := by simp; omega
    have el : (k == 4 || k == 5) = false := by simp; omega
    have e1 : (k == 1 || k == 2) = true := by simpa using hk
    simp only [s_ref13_needs_j1, s_ref13_needs_j2, cond_true, cond_false, e3, s_ref13_needs_j3, e_j4 (leaf := false) (k := k) el.symm, ndG, lkG, isLs, e1, if_true, moG, lfG, el, Bool.false_eq_true, if_false]
    cases h1 : ltB kids 2 <;> cases h2 : ltB 40 kids <;> exact W.ret.2 rfl
  rcases (show k = 1 ∨ k = 2 ∨ k = 3 ∨ k = 4 ∨ k = 5 by omega) with rfl | rfl | rfl | rfl | rfl
  · exact list 1 (.inl rfl)
  · exact list 2 (.inr rfl)
  · have e1 : ltB hi lo = !leB lo hi := by
      rw [ltB_eq, leB_eq]
      by_cases h : hi < lo
      · rw [decide_eq_true h, decide_eq_false (by omega)]; rfl
      · rw [decide_eq_false h, decide_eq_true (by omega)]; rfl
    have e4 : ∀ N x, s_ref13_needs_j3 N false x 3 kids lo hi v t te = some (if x = true then 4 else if ((!(v == []) || !(t == []) || ltB 0 (te.length : Int)) || (lo != 0 || hi != 0) && (3 : Int) != 3) = true then 2 else 0) := fun N x => by
      cases x
      · show s_ref13_needs_j4 N false false 3 kids lo hi v t te = _
        rw [e_j4 (leaf := false) (k := 3) rfl]; rfl
      · rfl
    show W (fun N => s_ref13_needs_j2 N false false 3 kids lo hi v t te) _
    simp only [s_ref13_needs_j2, cond_false, show ((3 : Int) == 3) = true from rfl, cond_true, e4, e1, ndG, lkG, isLs, ofG, moG, lfG, show ((3 : Int) == 1 || (3 : Int) == 2) = false from rfl, show ((3 : Int) == 4 || (3 : Int) == 5) = false from rfl, Bool.false_eq_true, if_false, if_true]
    generalize (if ((!(v == []) || !(t == []) || ltB 0 (te.length : Int)) || (lo != 0 || hi != 0) && (3 : Int) != 3) = true then (2 : Int) else 0) = z
    cases hk : kids != 1
    rotate_left
    · exact W.ret.2 rfl
    cases a1 : ltB lo 0
    rotate_left
    · exact W.ret.2 rfl
    cases a2 : ltB 8 lo
    rotate_left
    · exact W.ret.2 rfl
    cases a3 : ltB hi 0
    rotate_left
    · exact W.ret.2 rfl
    cases a4 : ltB 8 hi
    rotate_left
    · exact W.ret.2 rfl
    cases a5 : ltB 0 hi
    · have : (hi == 0) = true := by have := ltB_not.1 a3; have := ltB_not.1 a5; simp; omega
      have h0 : hi = 0 := by simpa using this
      subst h0
      cases a6 : lo == 1 <;> exact W.ret.2 (by simp)
    · have : (hi == 0) = false := by have := ltB_iff.1 a5; simp; omega
      rw [this]
      cases a6 : lo == 1 <;> cases a7 : leB lo hi <;> cases a8 : hi == 1 <;> exact W.ret.2 (by simp)
  · exact leaf 4 (.inl rfl)
  · exact leaf 5 (.inr rfl)
/-- What the reference's walk tells of a body's rest. -/
def EG (l : List shape_Node) (g : List shape_Node × Int) (r : Int × Int) : Prop := r.2 = g.2 ∧ (r.2 = 0 → ∃ j : Nat, r.1 = (j : Int) ∧ j ≤ l.length ∧ l.drop j = g.1)
theorem w_tree13 {l : List shape_Node} (hl : l.length ≤ 1000000) (ho : ∀ n ∈ l, okN n.Test) : ∀ (n a : Nat) (w d : Int), 0 ≤ d → d ≤ 16 → 17 - d ≤ n → a ≤ l.length → W (fun N => (SS_ref13_tree N) l a w d) (EG l (TG n (l.drop a) w d))
  | 0, a, w, d, h1, h2, h3, h4 => by omega
  | n + 1, a, w, d, h1, h2, h3, h4 => by
    refine W.shift ?_
    show W (fun N => b_ref13_tree N (SS_ref13_tree N) l a w d) _
    simp only [b_ref13_tree]
    by_cases ha : a < l.length
    rotate_left
    · simp only [show leB (l.length : Int) a = true from leB_iff.2 (by omega), cond_true, W.ret]
      rw [List.drop_eq_nil_of_le (by omega)]
      exact ⟨rfl, fun h => by cases h⟩
    have e1 : l.drop a = l[a] :: l.drop (a + 1) := List.drop_eq_getElem_cons ha
    have e2 : ix l (a : Int) = some l[a] := by rw [ix_nat']; simp [ha]
    have hm : l[a] ∈ l := List.getElem_mem ha
    rw [e1]
    generalize l[a] = e at *
    simp only [show leB (l.length : Int) a = false from leB_not.2 (by omega), cond_false, TG]
    by_cases hd : 16 ≤ d
    · simp only [show leB 16 d = true from leB_iff.2 hd, cond_true, if_pos hd, W.ret]
      exact ⟨rfl, fun h => by cases h⟩
    simp only [show leB 16 d = false by rw [leB_eq]; simpa using hd, cond_false, if_neg hd, e2, Option.bind_some]
    obtain ⟨k0, k1⟩ := kdG_le e
    -- the kids
    have kids : stG e w = true → W (fun N => (s_ref13_needs N e).bind fun need => bif (need != 0) then some ((a : Int), need) else gd (i64b ((a : Int) + 1)) (lp2 (s_ref13_tree_1 N (SS_ref13_tree N) l d e.Kind e.Kids e.Lo e.Hi e.Var e.Type_ e.Test) N ((a : Int) + 1) 0))
        (EG l (if stG e w = false then ([], 11) else if lkG e = true then ([], 4) else if moG e = true then ([], 2) else kidsG (fun r => TG n r e.Kind (d + 1)) (kdG e).toNat (l.drop (a + 1)))) := fun hs => by
      have hk : 1 ≤ e.Kind ∧ e.Kind ≤ 5 := by
        simp only [stG, Bool.and_eq_true, Bool.not_eq_true', ltB_not] at hs
        exact ⟨hs.1, hs.2.1⟩
      rw [hs, if_neg (by decide)]
      refine W.call (w_need13 hk.1 hk.2 (ho e hm)) ?_
      rintro _ rfl
      unfold ndG
      cases hlk : lkG e
      rotate_left
      · simp only [if_true, show ((4 : Int) != 0) = true from rfl, cond_true, W.ret]
        exact ⟨rfl, fun h => by cases h⟩
      simp only [Bool.false_eq_true, if_false]
      cases hmo : moG e
      rotate_left
      · simp only [if_true, show ((2 : Int) != 0) = true from rfl, cond_true, W.ret]
        exact ⟨rfl, fun h => by cases h⟩
      simp only [Bool.false_eq_true, if_false, show ((0 : Int) != 0) = false from rfl, cond_false, W.gd, i64b_eq]
      refine ⟨by omega, W.lp2 (P := fun v x => ∃ j : Nat, v = (j : Int) ∧ j ≤ l.length ∧ 0 ≤ x ∧ x ≤ kdG e ∧ kidsG (fun r => TG n r e.Kind (d + 1)) (kdG e - x).toNat (l.drop j) = kidsG (fun r => TG n r e.Kind (d + 1)) (kdG e).toNat (l.drop (a + 1))) (m := fun _ x => (kdG e - x).toNat) ⟨a + 1, by omega, ha, by omega, by omega, by simp⟩ ?_⟩
      rintro F v x ⟨j, rfl, j1, x0, x1, x2⟩ hn
      simp only [s_ref13_tree_1, e_rkdG, Option.bind_some]
      by_cases hx : x < kdG e
      · obtain ⟨m, hm⟩ : ∃ m, (kdG e - x).toNat = m + 1 := ⟨(kdG e - x).toNat - 1, by omega⟩
        simp only [show ltB x (kdG e) = true from ltB_iff.2 hx, cond_true, W.gd, i64b_eq]
        refine ⟨by omega, W.bind (W.lift (w_tree13 hl ho n j e.Kind (d + 1) (by omega) (by omega) (by omega) j1)) ?_⟩
        rintro r ⟨r1, r2⟩
        rw [hm, kidsG] at x2
        by_cases hc : (TG n (l.drop j) e.Kind (d + 1)).2 = 0
        · rw [if_pos hc] at x2
          have hx1 : 0 ≤ x + 1 ∧ x + 1 ≤ kdG e ∧ (kdG e - (x + 1)).toNat < (kdG e - x).toNat ∧ (-9223372036854775808 ≤ x + 1 ∧ x + 1 ≤ 9223372036854775807) := by clear r2; exact ⟨by omega, by omega, by omega, by omega, by omega⟩
          have hm1 : (kdG e - (x + 1)).toNat = m := by clear r2; omega
          obtain ⟨j', q1, q2, q3⟩ := r2 (r1.trans hc)
          simp only [r1, show ((TG n (l.drop j) e.Kind (d + 1)).2 != 0) = false by simpa using hc, cond_false, W.gd, i64b_eq]
          refine ⟨hx1.2.2.2, hn r.1 (x + 1) ⟨j', q1, q2, hx1.1, hx1.2.1, ?_⟩ hx1.2.2.1⟩
          rw [hm1, q3]
          exact x2
        · rw [if_neg hc] at x2
          simp only [r1, show ((TG n (l.drop j) e.Kind (d + 1)).2 != 0) = true by simpa using hc, cond_true, W.ret]
          rw [← x2]
          exact ⟨rfl, fun h => absurd h hc⟩
      · obtain rfl : x = kdG e := by omega
        have : ltB (kdG e) (kdG e) = false := by rw [ltB_eq]; simp
        simp only [this, cond_false, W.ret]
        rw [Int.sub_self] at x2
        rw [← x2]
        exact ⟨rfl, fun _ => ⟨j, rfl, j1, rfl⟩⟩
    have no : stG e w = false → W (fun N : Nat => some ((a : Int), (11 : Int))) (EG l (if stG e w = false then ([], 11) else if lkG e = true then ([], 4) else if moG e = true then ([], 2) else kidsG (fun r => TG n r e.Kind (d + 1)) (kdG e).toNat (l.drop (a + 1)))) := fun hs => by
      rw [if_pos hs]
      exact W.ret.2 ⟨rfl, fun h => by cases h⟩
    cases g1 : ltB e.Kind 1
    rotate_left
    · simp only [cond_true]; exact no (by simp [stG, g1])
    cases g2 : ltB 5 e.Kind
    rotate_left
    · simp only [cond_true, cond_false]; exact no (by simp [stG, g2])
    have hk : 1 ≤ e.Kind ∧ e.Kind ≤ 5 := ⟨ltB_not.1 g1, ltB_not.1 g2⟩
    simp only [cond_false]
    by_cases g3 : e.Kind = w
    · simp only [show (e.Kind == w) = true by simpa using g3, cond_true]
      by_cases g4 : w ≤ 2
      · simp only [show leB w 2 = true from leB_iff.2 g4, cond_true]
        exact no (by
          have : isLs e = true := by simp [isLs]; omega
          simp [stG, this, g3])
      · simp only [show leB w 2 = false by rw [leB_eq]; simpa using g4, cond_false]
        have hls : isLs e = false := by simp [isLs]; omega
        by_cases g5 : e.Kind = 5
        · simp only [show (e.Kind == 5) = true by simpa using g5, cond_true, show (w == 3) = false by simp; omega, cond_false]
          exact kids (by simp [stG, g1, g2, hls]; omega)
        · simp only [show (e.Kind == 5) = false by simpa using g5, cond_false]
          exact kids (by simp [stG, g1, g2, hls, g5])
    · simp only [show (e.Kind == w) = false by simpa using g3, cond_false]
      by_cases g5 : e.Kind = 5
      · have hls : isLs e = false := by simp [isLs]; omega
        simp only [show (e.Kind == 5) = true by simpa using g5, cond_true]
        by_cases g6 : w = 3
        · simp only [show (w == 3) = true by simpa using g6, cond_true]
          exact no (by simp [stG, hls, g5, g6])
        · simp only [show (w == 3) = false by simpa using g6, cond_false]
          exact kids (by simp [stG, g1, g2, hls, g6])
      · simp only [show (e.Kind == 5) = false by simpa using g5, cond_false]
        exact kids (by
          cases hls : isLs e <;> simp [stG, g1, g2, hls, g5, g3])
theorem w_rCheck13 (p : shape_Pattern) (hl : p.Body.length ≤ 1000000) (ho : ∀ n ∈ p.Body, okN n.Test) : W (fun N => s_ref13_Check N p) (· = chkG p) := by
  simp only [s_ref13_Check, e_rwd, Option.bind_some]
  unfold chkG
  by_cases h0 : 40 < p.Body.length
  · simp only [show ltB 40 (p.Body.length : Int) = true from ltB_iff.2 (by omega), cond_true, if_pos h0, W.ret]
  have g0 : ltB 40 (p.Body.length : Int) = false := by rw [ltB_eq]; exact decide_eq_false (by omega)
  simp only [g0, cond_false, if_neg h0, s_ref13_tree]
  refine W.call (f := fun N => (SS_ref13_tree N) p.Body 0 0 0) (P := EG p.Body (TG 17 (p.Body.drop 0) 0 0)) (w_tree13 hl ho 17 0 0 0 (by omega) (by omega) (by omega) (by omega)) ?_
  rintro r ⟨r1, r2⟩
  rw [List.drop_zero] at r1 r2
  generalize TG 17 p.Body 0 0 = q at *
  by_cases h1 : q.2 = 0
  rotate_left
  · simp only [r1, show (q.2 != 0) = true by simpa using h1, cond_true, if_pos h1, W.ret]
  obtain ⟨j, j1, j2, j3⟩ := r2 (r1.trans h1)
  simp only [r1, show (q.2 != 0) = false by simpa using h1, cond_false, if_neg (show ¬ q.2 ≠ 0 from fun h => h h1)]
  have hj : q.1.length = p.Body.length - j := by rw [← j3, List.length_drop]
  by_cases h2 : 0 < q.1.length
  · simp only [show ltB r.1 (p.Body.length : Int) = true from ltB_iff.2 (by omega), cond_true, if_pos h2, W.ret]
  have g2 : ltB r.1 (p.Body.length : Int) = false := by rw [ltB_eq]; exact decide_eq_false (by omega)
  simp only [g2, cond_false, if_neg h2]
  by_cases h3 : p.Within < 1
  · simp only [show ltB p.Within 1 = true from ltB_iff.2 h3, cond_true, if_pos h3, W.ret]
  have g3 : ltB p.Within 1 = false := by rw [ltB_eq]; exact decide_eq_false h3
  simp only [g3, cond_false, if_neg h3]
  by_cases h4 : 1073741824 < p.Within
  · simp only [show ltB 1073741824 p.Within = true from ltB_iff.2 h4, cond_true, if_pos h4, W.ret]
  have g4 : ltB 1073741824 p.Within = false := by rw [ltB_eq]; exact decide_eq_false h4
  simp only [g4, cond_false, if_neg h4]
  by_cases h5 : p.By = []
  · simp only [h5, show (!(([] : List UInt8) == [])) = false from rfl, cond_false, if_neg (show ¬ (([] : List UInt8) ≠ [] ∧ _) from fun h => h.1 rfl)]
    by_cases h6 : wdS p.Mode = []
    · simp [h6, W.ret]
    · simp [h6, W.ret, show (wdS p.Mode == []) = false by simpa using h6]
  · simp only [show (!(p.By == [])) = true by simpa using h5, cond_true]
    refine W.call (w_ref06_Name _) ?_
    rintro _ rfl
    cases h6 : nm p.By
    · simp [h5, W.ret]
    · simp only [Bool.not_true, cond_false, h5, Bool.true_eq_false, and_false, if_false]
      by_cases h7 : wdS p.Mode = []
      · simp [h7, W.ret]
      · simp [h7, W.ret, show (wdS p.Mode == []) = false by simpa using h7]
end
section
open Go Classical
theorem w_small (v : value_Value) (hv : okS v.Text) : W (fun N => s_law04_Small N v) fun r => ¬ 0 < r → v.Text.length ≤ 100 := by
  have := okS_le hv
  simp only [s_law04_Small, W.gd, W.ret, i64b_eq]
  exact ⟨by omega, fun h => by omega⟩
theorem w_nOwn (l : List pred_Node) (hl : l.length ≤ 10000) : W (fun N => s_law11_Own N l) (· = l) := by
  simp only [s_law11_Own]
  refine wf2a (l := l) (fun pre ys => ys = pre) [] rfl rfl (by omega) rfl ?_ ?_
  · rintro F pre e rest ys hl' h1 h2 h3 rfl hn
    simp only [s_law11_Own_1, h1, h2, h3, Option.bind_some, cond_true, W.gd, true_and]
    refine ⟨Nat.ble_eq_true_of_le (by rw [hl'] at hl; simp at hl; omega), hn _ rfl⟩
  · rintro F ys h1 rfl
    simp only [s_law11_Own_1, h1, cond_false, W.ret]
theorem w_nOver (l : List pred_Node) (hl : okL (fun n : pred_Node => okS n.Val.Text) l) : W (fun N => s_law11_Over N l) fun b => ¬ 0 < b → l.length ≤ 40 ∧ ∀ n ∈ l, n.Var.length ≤ 40 ∧ n.Name.length ≤ 40 ∧ n.Val.Text.length ≤ 100 := by
  have hlen : l.length ≤ 9223372036854775807 := hl.2
  simp only [s_law11_Over, W.cond, W.ret, ltB_iff, ltB_not]
  refine ⟨fun h h2 => absurd (by omega) h2, fun h => ?_⟩
  refine wf1 (l := l) (fun pre => ∀ n ∈ pre, n.Var.length ≤ 40 ∧ n.Name.length ≤ 40 ∧ n.Val.Text.length ≤ 100) [] rfl rfl (by omega) (by simp) ?_ ?_
  · intro F pre e rest hl' h1 h2 h3 hp hn
    have he := hl.1 e (by rw [hl']; simp)
    simp only [s_law11_Over_1, h1, h2, h3, Option.bind_some, cond_true, W.cond, W.ret, gd_true, ltB_iff, ltB_not]
    refine ⟨fun _ h => absurd (by omega) h, fun h40 => ⟨fun _ h => absurd (by omega) h, fun h41 => ?_⟩⟩
    refine W.call (w_small e.Val he) fun b hb => ?_
    simp only [W.cond, W.ret, ltB_iff, ltB_not]
    refine ⟨fun _ h => absurd (by omega) h, fun hb0 => hn fun t ht => ?_⟩
    rcases List.mem_append.1 ht with ht | ht
    · exact hp t ht
    · rw [List.mem_singleton.1 ht]; exact ⟨by omega, by omega, hb (by omega)⟩
  · intro F h1 hp
    simp only [s_law11_Over_1, h1, cond_false, W.ret]
    exact fun _ => ⟨by omega, hp⟩
theorem w_gOver (p : shape_Pattern) (hp : ok_shape_Pattern p) : W (fun N => s_law13_Over N p) fun b => ¬ 0 < b → p.Body.length ≤ 50 ∧ p.By.length ≤ 40 ∧ ∀ n ∈ p.Body, n.Test.length ≤ 40 := by
  have hlen : p.Body.length ≤ 9223372036854775807 := hp.1.2
  simp only [s_law13_Over, W.cond, W.ret, ltB_iff, ltB_not]
  refine ⟨fun h h2 => absurd (by omega) h2, fun h => ⟨fun h' h2 => absurd (by omega) h2, fun h' => ?_⟩⟩
  refine wf1 (l := p.Body) (fun pre => ∀ n ∈ pre, n.Test.length ≤ 40) [] rfl rfl (by omega) (by simp) ?_ ?_
  · intro F pre e rest hl' h1 h2 h3 hq hn
    have he := hp.1.1 e (by rw [hl']; simp)
    have ht := he.2.2.2.2.2.2
    simp only [s_law13_Over_1, h1, h2, h3, Option.bind_some, cond_true, W.cond, W.ret, gd_true, ltB_iff, ltB_not]
    refine ⟨fun _ h => absurd (by omega) h, fun h40 => ⟨fun _ h => absurd (by omega) h, fun h41 => ?_⟩⟩
    refine W.call (w_nOver e.Test ⟨fun n hn => (ht.1 n hn).2.2.2.2.2.2.2, ht.2⟩) fun b hb => ?_
    simp only [W.cond, W.ret, ltB_iff, ltB_not]
    refine ⟨fun _ h => absurd (by omega) h, fun hb0 => hn fun t ht => ?_⟩
    rcases List.mem_append.1 ht with ht | ht
    · exact hq t ht
    · rw [List.mem_singleton.1 ht]; exact (hb (by omega)).1
  · intro F h1 hq
    simp only [s_law13_Over_1, h1, cond_false, W.ret]
    exact fun _ => ⟨by omega, by omega, hq⟩
theorem w_gOwn (p : shape_Pattern) (h50 : p.Body.length ≤ 50) (ht : ∀ n ∈ p.Body, n.Test.length ≤ 40) : W (fun N => s_law13_Own N p) (· = p) := by
  simp only [s_law13_Own]
  refine wf2a (l := p.Body) (fun pre ys => ys = pre) [] rfl rfl (by omega) rfl ?_ ?_
  · rintro F pre e rest ys hl' h1 h2 h3 rfl hn
    simp only [s_law13_Own_1, h1, h2, Option.bind_some, cond_true]
    refine W.call (w_nOwn e.Test (by have := ht e (by rw [hl']; simp); omega)) ?_
    rintro _ rfl
    simp only [h3, W.gd, true_and]
    exact ⟨Nat.ble_eq_true_of_le (by rw [hl'] at h50; simp at h50; omega), hn _ rfl⟩
  · rintro F ys h1 rfl
    simp only [s_law13_Own_1, h1, cond_false, W.ret]
end
end
section
/-- A walk: how many choices were taken, the leaves, and whether it has ended. -/
structure WS where
  tk : Int
  out : List Int
  en : Bool
def WS.ok (s : WS) : Prop := 0 ≤ s.tk ∧ s.tk ≤ 200 ∧ s.out.length ≤ 100 ∧ (s.en = false → s.out.length < 100)
def cho (cs : List Int) (s : WS) : Int × WS := if s.tk = 200 then (0, ⟨s.tk, s.out, true⟩) else (max 0 (min 8 (cs.getD s.tk.toNat 0)), ⟨s.tk + 1, s.out, s.en⟩)
def iterW (f : WS → WS) : Nat → WS → WS
  | 0, s => s
  | n + 1, s => if s.en then s else iterW f n (f s)
def timG (lo hi c : Int) : Int := if 0 < hi then min (lo + c) hi else lo + c
mutual
def GT.wk (cs : List Int) : GT → Nat → WS → WS
  | .leaf _ _ _ _, i, s => if s.en then s else ⟨s.tk, s.out ++ [(i : Int)], ((s.out ++ [(i : Int)]).length : Int) == 100⟩
  | .rep lo hi a, i, s => if s.en then s else iterW (fun s => GT.wk cs a (i + 1) s) (timG lo hi (cho cs s).1).toNat (cho cs s).2
  | .lst alt bs, i, s => if s.en then s else if alt then GT.wkp cs bs ((cho cs s).1.toNat % bs.length) (i + 1) (cho cs s).2 else GT.wks cs bs (i + 1) s
def GT.wkp (cs : List Int) : List GT → Nat → Nat → WS → WS
  | [], _, _, s => s
  | b :: bs, k, i, s => if k = 0 then GT.wk cs b i s else GT.wkp cs bs (k - 1) (i + (GT.fl b).length) s
def GT.wks (cs : List Int) : List GT → Nat → WS → WS
  | [], _, s => s
  | b :: bs, i, s => if s.en then s else GT.wks cs bs (i + (GT.fl b).length) (GT.wk cs b i s)
end
section
variable {cs : List Int}
theorem cho_ok {s : WS} (h : s.ok) : (cho cs s).2.ok ∧ 0 ≤ (cho cs s).1 ∧ (cho cs s).1 ≤ 8 := by
  obtain ⟨h1, h2, h3, h4⟩ := h
  unfold cho
  split
  · exact ⟨⟨h1, h2, h3, fun h => (by cases h)⟩, by omega, by omega⟩
  · exact ⟨⟨by show 0 ≤ s.tk + 1; omega, by show s.tk + 1 ≤ 200; omega, h3, h4⟩, by show 0 ≤ max 0 _; omega, by show max 0 (min 8 _) ≤ 8; omega⟩
theorem iterW_en {f : WS → WS} {s : WS} (h : s.en = true) : ∀ n, iterW f n s = s
  | 0 => rfl
  | n + 1 => by simp [iterW, h]
theorem wks_en {s : WS} (h : s.en = true) (bs : List GT) (i : Nat) : GT.wks cs bs i s = s := by
  cases bs with
  | nil => simp [GT.wks]
  | cons b bs => simp [GT.wks, h]
theorem iterW_ok {f : WS → WS} (hf : ∀ s, s.ok → (f s).ok) : ∀ (n : Nat) (s : WS), s.ok → (iterW f n s).ok
  | 0, s, h => h
  | n + 1, s, h => by
    unfold iterW
    split
    · exact h
    · exact iterW_ok hf n _ (hf s h)
mutual
theorem wk_ok : ∀ (t : GT) (i : Nat) (s : WS), s.ok → (GT.wk cs t i s).ok
  | .leaf _ _ _ _, i, s, h => by
    rw [GT.wk]
    split
    · exact h
    · rename_i he
      obtain ⟨h1, h2, h3, h4⟩ := h
      have h5 := h4 (by simpa using he)
      refine ⟨h1, h2, by simp; omega, fun h => ?_⟩
      simp at h ⊢
      omega
  | .rep lo hi a, i, s, h => by
    rw [GT.wk]
    split
    · exact h
    · exact iterW_ok (fun s hs => wk_ok a (i + 1) s hs) _ _ (cho_ok h).1
  | .lst alt bs, i, s, h => by
    rw [GT.wk]
    split
    · exact h
    · split
      · exact wkp_ok bs _ _ _ (cho_ok h).1
      · exact wks_ok bs _ _ h
theorem wkp_ok : ∀ (bs : List GT) (k i : Nat) (s : WS), s.ok → (GT.wkp cs bs k i s).ok
  | [], k, i, s, h => by rw [GT.wkp]; exact h
  | b :: bs, k, i, s, h => by
    rw [GT.wkp]
    split
    · exact wk_ok b i s h
    · exact wkp_ok bs _ _ s h
theorem wks_ok : ∀ (bs : List GT) (i : Nat) (s : WS), s.ok → (GT.wks cs bs i s).ok
  | [], i, s, h => by rw [GT.wks]; exact h
  | b :: bs, i, s, h => by
    rw [GT.wks]
    split
    · exact h
    · exact wks_ok bs _ _ (wk_ok b i s h)
end
theorem wkp_at {b : GT} {bs2 : List GT} : ∀ (bs1 : List GT) (i : Nat) (s : WS), GT.wkp cs (bs1 ++ b :: bs2) bs1.length i s = GT.wk cs b (i + (GT.fls bs1).length) s
  | [], i, s => by simp [GT.wkp, GT.fls]
  | a :: bs1, i, s => by
    rw [List.cons_append, GT.wkp, if_neg (by simp), List.length_cons, Nat.add_sub_cancel, wkp_at bs1, GT.fls, List.length_append, Nat.add_assoc]
theorem fl_pos : ∀ t : GT, ∃ e r, t.fl = e :: r
  | .leaf .. => ⟨_, _, rfl⟩
  | .rep .. => ⟨_, _, rfl⟩
  | .lst .. => ⟨_, _, rfl⟩
theorem ix_pre {α : Type} {l pre r : List α} {e : α} (h : l = pre ++ e :: r) : ix l (pre.length : Int) = some e := by
  rw [ix_nat', h]; simp
/-- The kids of a node. -/
def GT.kd : GT → List GT
  | .leaf .. => []
  | .rep _ _ a => [a]
  | .lst _ bs => bs
theorem fl_kd (t : GT) : ∃ e, t.fl = e :: GT.fls t.kd ∧ ∀ w, t.ok w → kdG e = (t.kd.length : Int) := by
  cases t with
  | leaf neg v ty o => exact ⟨_, rfl, fun w h => by cases neg <;> rfl⟩
  | rep lo hi a => exact ⟨_, by simp [GT.fl, GT.kd, GT.fls]; rfl, fun w h => rfl⟩
  | lst alt bs =>
    refine ⟨_, rfl, fun w h => ?_⟩
    obtain ⟨_, _, h3, _⟩ := h
    have : isLs (⟨kA alt, (bs.length : Int), 0, 0, [], [], []⟩ : shape_Node) = true := by cases alt <;> rfl
    simp only [kdG, this, if_true, GT.kd]
    omega
theorem kd_ok {t : GT} {w : Int} (h : t.ok w) : ∃ w', GT.oks t.kd w' := by
  cases t with
  | leaf => exact ⟨0, trivial⟩
  | rep lo hi a => exact ⟨3, h.2, trivial⟩
  | lst alt bs => exact ⟨_, h.2.2.2⟩
/-- So many trees, each of which may be somewhere. -/
def oksA (ts : List GT) : Prop := ∀ t ∈ ts, ∃ w, GT.ok t w
theorem oks_A : ∀ {ts : List GT} {w : Int}, GT.oks ts w → oksA ts
  | [], w, h => fun t ht => by cases ht
  | a :: ts, w, h => fun t ht => by
    rcases List.mem_cons.1 ht with rfl | ht
    · exact ⟨w, h.1⟩
    · exact oks_A h.2 t ht
theorem kdA {t : GT} {ts : List GT} (h : oksA (t :: ts)) : oksA (t.kd ++ ts) := fun x hx => by
  rcases List.mem_append.1 hx with hx | hx
  · obtain ⟨w, hw⟩ := h t (by simp)
    obtain ⟨w', hw'⟩ := kd_ok hw
    exact oks_A hw' x hx
  · exact h x (by simp [hx])
theorem w_size {pre post : List shape_Node} {t : GT} {w : Int} (ht : t.ok w) {l : List shape_Node} (hl : l = pre ++ (t.fl ++ post)) (hb : l.length ≤ 1000) : W (fun N => s_shape_Size N l (pre.length : Int)) (· = (t.fl.length : Int)) := by
  have hpos : 0 < t.fl.length := by obtain ⟨e, r, h⟩ := fl_pos t; rw [h]; simp
  have hlen : l.length = pre.length + (t.fl.length + post.length) := by rw [hl]; simp
  have hdr : List.drop pre.length l = t.fl ++ post := by rw [hl]; simp
  simp only [s_shape_Size, show ltB (pre.length : Int) 0 = false from ltB_not.2 (by omega), cond_false, show leB (l.length : Int) (pre.length : Int) = false from leB_not.2 (by omega), show leB 0 (pre.length : Int) = true from leB_iff.2 (by omega), show leB (pre.length : Int) (l.length : Int) = true from leB_iff.2 (by omega), gd_true, Int.toNat_natCast, hdr]
  refine W.lp2 (P := fun lack x => ∃ (ts : List GT) (m : Nat), oksA ts ∧ ts ≠ [] ∧ lack = (ts.length : Int) ∧ x = (m : Int) ∧ m ≤ t.fl.length ∧ (t.fl ++ post).drop m = GT.fls ts ++ post ∧ m + (GT.fls ts).length = t.fl.length) (m := fun _ x => (t.fl.length : Int).toNat - x.toNat)
    ⟨[t], 0, fun x hx => ⟨w, by rw [List.mem_singleton.1 hx]; exact ht⟩, by simp, rfl, rfl, by omega, by simp [GT.fls], by simp [GT.fls]⟩ ?_
  rintro F lack x ⟨ts, m, h1, h2, rfl, rfl, h3, h4, h5⟩ hn
  cases ts with
  | nil => exact absurd rfl h2
  | cons a ts =>
    obtain ⟨e, he, hk⟩ := fl_kd a
    obtain ⟨wa, ha⟩ := h1 a (by simp)
    have hk := hk wa ha
    rw [GT.fls, he] at h4 h5
    have hm : m < t.fl.length := by simp at h5; omega
    have hix : ix (t.fl ++ post) (m : Int) = some e := by
      rw [ix_nat', ← List.head?_drop, h4]; simp
    have hts : ts.length ≤ 100000 := by
      have : ∀ us : List GT, us.length ≤ (GT.fls us).length := fun us => by
        induction us with
        | nil => simp
        | cons u us ih =>
          obtain ⟨e, r, h⟩ := fl_pos u
          rw [GT.fls, h]; simp; omega
      have := this ts
      simp at h5; omega
    simp only [s_shape_Size_1, show ltB (m : Int) ((t.fl ++ post).length : Int) = true from ltB_iff.2 (by simp; omega), cond_true, hix, Option.bind_some, e_kdG, hk]
    have hkb : a.kd.length ≤ 100000 := by
      have := kdG_le e
      omega
    simp only [W.gd, i64b_eq, List.length_cons]
    refine ⟨by omega, by omega, ?_⟩
    have hl2 : (((ts.length + 1 : Nat) : Int) + ((a.kd.length : Int) - 1)) = ((a.kd ++ ts).length : Int) := by simp; omega
    rw [hl2]
    have hd1 : (t.fl ++ post).drop (m + 1) = GT.fls (a.kd ++ ts) ++ post := by
      rw [← List.drop_drop, h4, fls_app]; simp
    have hs1 : m + 1 + (GT.fls (a.kd ++ ts)).length = t.fl.length := by
      rw [fls_app]; simp at h5 ⊢; omega
    by_cases hz : a.kd ++ ts = []
    · simp only [hz, List.length_nil, show (((0 : Nat) : Int) == 0) = true from rfl, cond_true, W.gd, i64b_eq, W.ret]
      rw [hz] at hs1
      simp only [GT.fls, List.length_nil] at hs1
      exact ⟨by omega, by omega⟩
    · have hz' : (((a.kd ++ ts).length : Int) == 0) = false := by
        have : (a.kd ++ ts).length ≠ 0 := fun h => hz (List.length_eq_zero_iff.1 h)
        rw [beq_eq_false_iff_ne]; omega
      simp only [hz', cond_false, W.gd, i64b_eq]
      refine ⟨by omega, hn _ _ ⟨a.kd ++ ts, m + 1, kdA h1, hz, rfl, by omega, by omega, hd1, hs1⟩ (by omega)⟩
theorem w_size13 {pre post : List shape_Node} {t : GT} {w : Int} (ht : t.ok w) {l : List shape_Node} (hl : l = pre ++ (t.fl ++ post)) (hb : l.length ≤ 1000) : W (fun N => s_ref13_Size N l (pre.length : Int)) (· = (t.fl.length : Int)) := by
  have hpos : 0 < t.fl.length := by obtain ⟨e, r, h⟩ := fl_pos t; rw [h]; simp
  have hlen : l.length = pre.length + (t.fl.length + post.length) := by rw [hl]; simp
  simp only [s_ref13_Size, show ltB (pre.length : Int) 0 = false from ltB_not.2 (by omega), cond_false, show leB (l.length : Int) (pre.length : Int) = false from leB_not.2 (by omega)]
  refine W.lp2 (P := fun o x => ∃ (ts : List GT) (m : Nat), oksA ts ∧ o = (ts.length : Int) ∧ x = ((pre.length + m : Nat) : Int) ∧ m ≤ t.fl.length ∧ l.drop (pre.length + m) = GT.fls ts ++ post ∧ m + (GT.fls ts).length = t.fl.length) (m := fun _ x => l.length - x.toNat)
    ⟨[t], 0, fun x hx => ⟨w, by rw [List.mem_singleton.1 hx]; exact ht⟩, rfl, by simp, by omega, by rw [hl]; simp [GT.fls], by simp [GT.fls]⟩ ?_
  rintro F o x ⟨ts, m, h1, rfl, rfl, h3, h4, h5⟩ hn
  cases ts with
  | nil =>
    simp only [GT.fls, List.length_nil] at h5
    simp only [s_ref13_Size_1, List.length_nil, show ltB 0 ((0 : Nat) : Int) = false from rfl, cond_false, W.gd, i64b_eq, W.ret]
    exact ⟨by omega, by omega⟩
  | cons a ts =>
    obtain ⟨e, he, hk⟩ := fl_kd a
    obtain ⟨wa, ha⟩ := h1 a (by simp)
    have hk := hk wa ha
    rw [GT.fls, he] at h4 h5
    have hm : m < t.fl.length := by simp at h5; omega
    have hix : ix l ((pre.length + m : Nat) : Int) = some e := by
      rw [ix_nat', ← List.head?_drop, h4]; simp
    have hts : ts.length ≤ 100000 := by
      have : ∀ us : List GT, us.length ≤ (GT.fls us).length := fun us => by
        induction us with
        | nil => simp
        | cons u us ih =>
          obtain ⟨e, r, h⟩ := fl_pos u
          rw [GT.fls, h]; simp; omega
      have := this ts
      simp at h5; omega
    have hkb : a.kd.length ≤ 100000 := by
      have := kdG_le e
      omega
    simp only [s_ref13_Size_1, show ltB 0 ((ts.length + 1 : Nat) : Int) = true from ltB_iff.2 (by omega), show leB (l.length : Int) ((pre.length + m : Nat) : Int) = false from leB_not.2 (by omega), cond_true, cond_false, hix, Option.bind_some, e_rkdG, hk, W.gd, i64b_eq, List.length_cons]
    have hd1 : l.drop (pre.length + m + 1) = GT.fls (a.kd ++ ts) ++ post := by
      rw [← List.drop_drop, h4, fls_app]; simp
    have hs1 : m + 1 + (GT.fls (a.kd ++ ts)).length = t.fl.length := by
      rw [fls_app]; simp at h5 ⊢; omega
    refine ⟨by omega, by omega, by omega, hn _ _ ⟨a.kd ++ ts, m + 1, kdA h1, by simp; omega, by omega, by omega, hd1, hs1⟩ (by omega)⟩
end
end
section
theorem getD_lt {cs : List Int} {i : Nat} (h : i < cs.length) (d : Int) : cs.getD i d = cs[i] := by simp [List.getD, h]
theorem e_choice9 {body : List shape_Node} {cs : List Int} {s : WS} (h : s.ok) (N : Nat) : s_scope_walker_choice_v758 N body cs s.tk s.en s.out = some ((cho cs s).1, body, cs, (cho cs s).2.tk, (cho cs s).2.en, (cho cs s).2.out) := by
  obtain ⟨h1, h2, h3, h4⟩ := h
  unfold s_scope_walker_choice_v758 cho
  by_cases h5 : s.tk = 200
  · simp [h5]
  · rw [if_neg h5]
    simp only [show (s.tk == 200) = false by simpa using h5, cond_false, show i64b (s.tk + 1) = true from i64b_eq.2 (by omega), gd_true]
    obtain ⟨n, hn⟩ := Int.eq_ofNat_of_zero_le h1
    by_cases h6 : (cs.length : Int) < s.tk + 1
    · simp only [show ltB (cs.length : Int) (s.tk + 1) = true from ltB_iff.2 h6, cond_true]
      rw [hn] at h6 ⊢
      have : cs.getD (n : Int).toNat 0 = 0 := by
        rw [List.getD, List.getElem?_eq_none (by simp; omega)]; rfl
      rw [this]; rfl
    · simp only [show ltB (cs.length : Int) (s.tk + 1) = false from ltB_not.2 (by omega), cond_false, show s.tk + 1 - 1 = s.tk by omega, show i64b s.tk = true from i64b_eq.2 (by omega), gd_true]
      have h7 : s.tk.toNat < cs.length := by omega
      rw [show ix cs s.tk = some cs[s.tk.toNat] by rw [ix, if_pos h1]; simp [h7], getD_lt h7, Option.bind_some, Int.min_comm]
theorem e_choice2 {body : List shape_Node} {cs : List Int} {s : WS} (h : s.ok) (N : Nat) : s_scope_walker_choice_v240 N body cs s.tk s.en = some ((cho cs s).1, body, cs, (cho cs s).2.tk, (cho cs s).2.en) := by
  have := e_choice9 (body := body) (cs := cs) h N
  unfold s_scope_walker_choice_v758 at this
  unfold s_scope_walker_choice_v240
  by_cases h5 : s.tk = 200
  · simp [h5, cho]
  · obtain ⟨h1, h2, h3, h4⟩ := h
    simp only [show (s.tk == 200) = false by simpa using h5, cond_false, show i64b (s.tk + 1) = true from i64b_eq.2 (by omega), gd_true] at this ⊢
    by_cases h6 : (cs.length : Int) < s.tk + 1
    · simp only [show ltB (cs.length : Int) (s.tk + 1) = true from ltB_iff.2 h6, cond_true] at this ⊢
      simp only [Option.some.injEq, Prod.mk.injEq, true_and] at this ⊢
      exact ⟨this.1, this.2.1, this.2.2.1⟩
    · simp only [show ltB (cs.length : Int) (s.tk + 1) = false from ltB_not.2 (by omega), cond_false, show i64b (s.tk + 1 - 1) = true from i64b_eq.2 (by omega), gd_true] at this ⊢
      cases hx : ix cs (s.tk + 1 - 1) with
      | none => rw [hx] at this; cases this
      | some e =>
        rw [hx] at this
        simp only [Option.bind_some, Option.some.injEq, Prod.mk.injEq, true_and] at this ⊢
        exact ⟨this.1, this.2.1, this.2.2.1⟩
theorem cho_out (cs : List Int) (s : WS) : (cho cs s).2.out = s.out := by unfold cho; split <;> rfl
section
variable {body : List shape_Node} {cs : List Int}
def R9 (body : List shape_Node) (cs : List Int) (s : WS) (r : (List shape_Node × List Int × Int × Bool × List Int) ⊕ (List shape_Node × List Int × Int × Bool × List Int)) : Prop := r = .inl (body, cs, s.tk, s.en, s.out) ∨ r = .inr (body, cs, s.tk, s.en, s.out)
def P9 (body : List shape_Node) (cs : List Int) (t : GT) : Prop := ∀ (pre post : List shape_Node) (s : WS), s.ok → body = pre ++ (t.fl ++ post) → W (fun N => (SS_scope_walker_tree_v950 N) (pre.length : Int) body cs s.tk s.en s.out) (R9 body cs (t.wk cs pre.length s))
theorem p9_leaf {neg : Bool} {v ty : List UInt8} {o : Option TT} : P9 body cs (.leaf neg v ty o) := by
  intro pre post s hs hb
  refine W.shift ?_
  show W (fun N => b_scope_walker_tree_v950 N (SS_scope_walker_tree_v950 N) _ _ _ _ _ _) _
  have hix := ix_pre (l := body) (pre := pre) (e := ⟨kL neg, 0, 0, 0, v, ty, oT o⟩) (r := post) hb
  obtain ⟨h1, h2, h3, h4⟩ := hs
  rw [GT.wk]
  simp only [b_scope_walker_tree_v950, hix, Option.bind_some]
  cases he : s.en
  · simp only [cond_false, Bool.false_eq_true, if_false]
    have hl : ∀ N, s_scope_leaf N ⟨kL neg, 0, 0, 0, v, ty, oT o⟩ = some true := fun N => by cases neg <;> rfl
    simp only [hl, Option.bind_some, cond_true, W.gd, W.ret]
    exact ⟨Nat.ble_eq_true_of_le (by omega), .inr rfl⟩
  · simp only [cond_true, if_true, W.ret]
    exact .inl (by rw [← he])
theorem p9_rep {lo hi : Int} {a : GT} {w : Int} (h : (GT.rep lo hi a).ok w) (ih : P9 body cs a) (hlen : body.length ≤ 1000) : P9 body cs (.rep lo hi a) := by
  intro pre post s hs hb
  refine W.shift ?_
  show W (fun N => b_scope_walker_tree_v950 N (SS_scope_walker_tree_v950 N) _ _ _ _ _ _) _
  have hix := ix_pre (l := body) (pre := pre) (e := ⟨3, 1, lo, hi, [], [], []⟩) (r := a.fl ++ post) (by rw [hb]; simp [GT.fl])
  have hpl : pre.length ≤ 1000 := by rw [hb] at hlen; simp at hlen; omega
  obtain ⟨⟨l1, l2, l3, l4, _, _⟩, _⟩ := h
  rw [GT.wk]
  simp only [b_scope_walker_tree_v950, hix, Option.bind_some, bothN_eq]
  cases he : s.en
  rotate_left
  · simp only [cond_true, if_true, W.ret]
    exact .inl (by rw [← he])
  simp only [cond_false, Bool.false_eq_true, if_false]
  have hl : ∀ N, s_scope_leaf N ⟨3, 1, lo, hi, [], [], []⟩ = some false := fun N => rfl
  obtain ⟨c1, c2, c3⟩ := cho_ok (cs := cs) hs
  rw [← he]
  simp only [hl, Option.bind_some, cond_false, show ((3 : Int) == 2) = false from rfl, show ((3 : Int) == 3) = true from rfl, cond_true, e_choice9 hs, W.gd, i64b_eq]
  generalize hc : cho cs s = q at c1 c2 c3 ⊢
  obtain ⟨c, s'⟩ := q
  simp only at c1 c2 c3 ⊢
  have loop : ∀ times : Int, times = timG lo hi c → W (fun i => lp6 (s_scope_walker_tree_v950_2 i (SS_scope_walker_tree_v950 i) (pre.length : Int) times) i 0 body cs s'.tk s'.en s'.out) (R9 body cs (iterW (fun s => GT.wk cs a (pre.length + 1) s) times.toNat s')) := by
    intro times htm
    refine W.lp6 (N := fun N => N) (P := fun i y1 y2 tk en out => ∃ u : WS, u.ok ∧ y1 = body ∧ y2 = cs ∧ tk = u.tk ∧ en = u.en ∧ out = u.out ∧ 0 ≤ i ∧ i ≤ max 0 times ∧ iterW (fun s => GT.wk cs a (pre.length + 1) s) (times - i).toNat u = iterW (fun s => GT.wk cs a (pre.length + 1) s) times.toNat s') (m := fun i _ _ _ _ _ => (times - i).toNat)
      ⟨s', c1, rfl, rfl, rfl, rfl, rfl, Int.le_refl _, by omega, by rw [Int.sub_zero]⟩ ?_
    rintro F i y1 y2 tk en out ⟨u, hu, rfl, rfl, rfl, rfl, rfl, i0, i1, i2⟩ hn
    simp only [s_scope_walker_tree_v950_2]
    have htb : times ≤ 100 := by rw [htm]; unfold timG; split <;> omega
    by_cases hlt : i < times
    · simp only [show ltB i times = true from ltB_iff.2 hlt, cond_true]
      obtain ⟨m, hm⟩ : ∃ m, (times - i).toNat = m + 1 := ⟨(times - i).toNat - 1, by omega⟩
      cases hue : u.en
      · simp only [Bool.not_false, cond_true, W.gd, i64b_eq]
        refine ⟨by omega, ?_⟩
        have hcall := ih (pre ++ [⟨3, 1, lo, hi, [], [], []⟩]) post u hu (by rw [hb]; simp [GT.fl])
        have e1 : ((pre ++ [(⟨3, 1, lo, hi, [], [], []⟩ : shape_Node)]).length : Int) = (pre.length : Int) + 1 := by simp
        have e2 : (pre ++ [(⟨3, 1, lo, hi, [], [], []⟩ : shape_Node)]).length = pre.length + 1 := by simp
        rw [e1, e2, hue] at hcall
        refine W.bind (W.lift hcall) ?_
        have hu' : (a.wk y2 (pre.length + 1) u).ok := wk_ok a _ _ hu
        rw [hm, iterW, if_neg (by rw [hue]; simp)] at i2
        rintro r (rfl | rfl)
        all_goals
          simp only [Sum.elim_inl, Sum.elim_inr, W.gd, i64b_eq]
          exact ⟨by omega, hn _ _ _ _ _ _ ⟨_, hu', rfl, rfl, rfl, rfl, rfl, by omega, by omega, by rw [show (times - (i + 1)).toNat = m by omega]; exact i2⟩ (by omega)⟩
      · simp only [Bool.not_true, cond_false, W.ret]
        rw [iterW_en hue] at i2
        rw [← i2]
        exact .inr (by rw [hue])
    · simp only [show ltB i times = false from ltB_not.2 (by omega), cond_false, W.ret]
      rw [show (times - i).toNat = 0 by omega, iterW] at i2
      rw [← i2]
      exact .inr rfl
  refine ⟨by omega, ?_⟩
  by_cases hh : 0 < hi
  · simp only [show ltB 0 hi = true from ltB_iff.2 hh, cond_true]
    have := loop (min (lo + c) hi) (by rw [timG, if_pos hh])
    rw [timG, if_pos hh]
    exact this
  · simp only [show ltB 0 hi = false from ltB_not.2 (by omega), cond_false]
    have := loop (lo + c) (by rw [timG, if_neg hh])
    rw [timG, if_neg hh]
    exact this
theorem p9_lst {alt : Bool} {bs : List GT} {w : Int} (h : (GT.lst alt bs).ok w) (ih : ∀ b ∈ bs, P9 body cs b) (hlen : body.length ≤ 1000) : P9 body cs (.lst alt bs) := by
  intro pre post s hs hb
  refine W.shift ?_
  show W (fun N => b_scope_walker_tree_v950 N (SS_scope_walker_tree_v950 N) _ _ _ _ _ _) _
  have hb' : body = pre ++ [(⟨kA alt, (bs.length : Int), 0, 0, [], [], []⟩ : shape_Node)] ++ (GT.fls bs ++ post) := by rw [hb]; simp [GT.fl]
  have hix := ix_pre (l := body) (pre := pre) (e := ⟨kA alt, (bs.length : Int), 0, 0, [], [], []⟩) (r := GT.fls bs ++ post) (by rw [hb]; simp [GT.fl])
  have hpl : pre.length + (GT.fls bs).length + 1 ≤ 1000 := by rw [hb'] at hlen; simp at hlen; omega
  obtain ⟨_, k1, k2, k3⟩ := h
  have hoA := oks_A k3
  -- a kid, and what lies ahead of it and behind
  have split : ∀ {bs1 bs2 : List GT} {b : GT}, bs = bs1 ++ b :: bs2 → body = (pre ++ [(⟨kA alt, (bs.length : Int), 0, 0, [], [], []⟩ : shape_Node)] ++ GT.fls bs1) ++ (b.fl ++ (GT.fls bs2 ++ post)) ∧ (pre ++ [(⟨kA alt, (bs.length : Int), 0, 0, [], [], []⟩ : shape_Node)] ++ GT.fls bs1).length = pre.length + 1 + (GT.fls bs1).length := fun {bs1 bs2 b} hs => by
    refine ⟨?_, by simp; omega⟩
    have : GT.fls bs = GT.fls bs1 ++ (b.fl ++ GT.fls bs2) := by rw [hs, fls_app, GT.fls]
    rw [hb', this]
    simp only [List.append_assoc]
  rw [GT.wk]
  simp only [b_scope_walker_tree_v950, hix, Option.bind_some, bothN_eq]
  cases he : s.en
  rotate_left
  · simp only [cond_true, if_true, W.ret]
    exact .inl (by rw [← he])
  simp only [cond_false, Bool.false_eq_true, if_false]
  have hl : ∀ N, s_scope_leaf N ⟨kA alt, (bs.length : Int), 0, 0, [], [], []⟩ = some false := fun N => by cases alt <;> rfl
  rw [← he]
  simp only [hl, Option.bind_some, cond_false]
  cases alt
  · -- one behind the other
    simp only [show ((kA false) == 2) = false from rfl, show ((kA false) == 3) = false from rfl, cond_false, W.gd, i64b_eq, Bool.false_eq_true, if_false]
    refine ⟨by omega, ?_⟩
    refine W.lp7 (N := fun N => N) (P := fun v i y1 y2 tk en out => ∃ (u : WS) (bs1 bs2 : List GT), u.ok ∧ bs = bs1 ++ bs2 ∧ v = ((pre.length + 1 + (GT.fls bs1).length : Nat) : Int) ∧ i = (bs1.length : Int) ∧ y1 = body ∧ y2 = cs ∧ tk = u.tk ∧ en = u.en ∧ out = u.out ∧ GT.wks cs bs2 (pre.length + 1 + (GT.fls bs1).length) u = GT.wks cs bs (pre.length + 1) s) (m := fun _ i _ _ _ _ _ => bs.length - i.toNat)
      ⟨s, [], bs, hs, rfl, by simp [GT.fls], rfl, rfl, rfl, rfl, rfl, rfl, by simp [GT.fls]⟩ ?_
    rintro F v i y1 y2 tk en out ⟨u, bs1, bs2, hu, hbs, rfl, rfl, rfl, rfl, rfl, rfl, rfl, hw⟩ hn
    simp only [s_scope_walker_tree_v950_3]
    cases bs2 with
    | nil =>
      rw [List.append_nil] at hbs
      simp only [show ltB (bs1.length : Int) (bs.length : Int) = false from ltB_not.2 (by rw [hbs]; omega), cond_false, W.ret]
      rw [GT.wks] at hw
      rw [← hw]
      exact .inr rfl
    | cons b bs2 =>
      have hbl : bs.length = bs1.length + (bs2.length + 1) := by rw [hbs]; simp
      simp only [show ltB (bs1.length : Int) (bs.length : Int) = true from ltB_iff.2 (by omega), cond_true]
      cases hue : u.en
      · simp only [Bool.not_false, cond_true]
        obtain ⟨s1, s2⟩ := split hbs
        have hcall := ih b (by rw [hbs]; simp) _ _ u hu s1
        rw [s2, hue] at hcall
        refine W.bind (W.lift hcall) ?_
        rw [GT.wks, if_neg (by rw [hue]; simp)] at hw
        obtain ⟨wb, hwb⟩ := hoA b (by rw [hbs]; simp)
        have hsz := w_size hwb s1 hlen
        rw [s2] at hsz
        have hu' : (b.wk y2 (pre.length + 1 + (GT.fls bs1).length) u).ok := wk_ok b _ _ hu
        have hfl : (GT.fls bs1).length + b.fl.length ≤ (GT.fls bs).length := by rw [hbs, fls_app, GT.fls]; simp only [List.length_append]; omega
        rintro r (rfl | rfl)
        all_goals
          simp only [Sum.elim_inl, Sum.elim_inr]
          refine W.call hsz ?_
          rintro _ rfl
          simp only [W.gd, i64b_eq]
          refine ⟨by omega, by omega, hn _ _ _ _ _ _ _ ⟨_, bs1 ++ [b], bs2, hu', by rw [hbs]; simp, by rw [fls_app]; simp only [GT.fls, List.length_append, List.append_nil]; omega, by simp, rfl, rfl, rfl, rfl, rfl, ?_⟩ (by omega)⟩
          rw [← hw, fls_app]
          simp only [GT.fls, List.length_append, List.append_nil, Nat.add_assoc]
      · simp only [Bool.not_true, cond_false, W.ret]
        rw [wks_en hue] at hw
        rw [← hw]
        exact .inr (by rw [hue])
  · -- one of them
    obtain ⟨c1, c2, c3⟩ := cho_ok (cs := cs) hs
    simp only [show ((kA true) == 2) = true from rfl, cond_true, W.gd, i64b_eq, if_true, e_choice9 hs, Option.bind_some]
    generalize hc : cho cs s = q at c1 c2 c3 ⊢
    obtain ⟨c, s'⟩ := q
    simp only at c1 c2 c3 ⊢
    refine ⟨by omega, by rw [bne_iff_ne]; omega, ?_⟩
    have hmod : Int.tmod c (bs.length : Int) = ((c.toNat % bs.length : Nat) : Int) := by
      obtain ⟨n, rfl⟩ := Int.eq_ofNat_of_zero_le c2
      rfl
    have hkl : c.toNat % bs.length < bs.length := Nat.mod_lt _ (by omega)
    rw [hmod]
    generalize c.toNat % bs.length = k at hkl ⊢
    refine W.lp2 (N := fun N => N) (P := fun v i => ∃ (bs1 bs2 : List GT), bs = bs1 ++ bs2 ∧ v = ((pre.length + 1 + (GT.fls bs1).length : Nat) : Int) ∧ i = (bs1.length : Int) ∧ bs1.length ≤ k) (m := fun _ i => k - i.toNat)
      ⟨[], bs, rfl, by simp [GT.fls], rfl, by simp⟩ ?_
    rintro F v i ⟨bs1, bs2, hbs, rfl, rfl, hk⟩ hn
    cases bs2 with
    | nil => rw [List.append_nil] at hbs; rw [hbs] at hkl; omega
    | cons b bs2 =>
      obtain ⟨s1, s2⟩ := split hbs
      simp only [s_scope_walker_tree_v950_1]
      have hfl : (GT.fls bs1).length + b.fl.length ≤ (GT.fls bs).length := by rw [hbs, fls_app, GT.fls]; simp only [List.length_append]; omega
      by_cases hlt : bs1.length < k
      · obtain ⟨wb, hwb⟩ := hoA b (by rw [hbs]; simp)
        have hsz := w_size hwb s1 hlen
        rw [s2] at hsz
        simp only [show ltB (bs1.length : Int) (k : Int) = true from ltB_iff.2 (by omega), cond_true]
        refine W.call hsz ?_
        rintro _ rfl
        simp only [W.gd, i64b_eq]
        exact ⟨by omega, by omega, hn _ _ ⟨bs1 ++ [b], bs2, by rw [hbs]; simp, by rw [fls_app]; simp only [GT.fls, List.length_append, List.append_nil]; omega, by simp, by simp; omega⟩ (by omega)⟩
      · obtain rfl : k = bs1.length := by omega
        simp only [show ltB (bs1.length : Int) (bs1.length : Int) = false from ltB_irr _, cond_false]
        have hcall := ih b (by rw [hbs]; simp) _ _ s' c1 s1
        rw [s2] at hcall
        refine W.bind (W.lift hcall) ?_
        have hwk := wkp_at (cs := cs) (b := b) (bs2 := bs2) bs1 (pre.length + 1) s'
        rw [← hbs] at hwk
        rw [hwk]
        rintro r (rfl | rfl)
        · simp only [Sum.elim_inl, W.ret]; exact .inl rfl
        · simp only [Sum.elim_inr, W.ret]; exact .inr rfl
mutual
theorem p9 (hlen : body.length ≤ 1000) : ∀ (t : GT) (w : Int), t.ok w → P9 body cs t
  | .leaf neg v ty o, w, h => p9_leaf
  | .rep lo hi a, w, h => p9_rep h (p9 hlen a 3 h.2) hlen
  | .lst alt bs, w, h => p9_lst h (p9s hlen bs (kA alt) h.2.2.2) hlen
theorem p9s (hlen : body.length ≤ 1000) : ∀ (bs : List GT) (w : Int), GT.oks bs w → ∀ b ∈ bs, P9 body cs b
  | [], w, _, b, hb => by cases hb
  | a :: r, w, h, b, hb => by
    rcases List.mem_cons.1 hb with e | hb
    · rw [e]; exact p9 hlen a w h.1
    · exact p9s hlen r w h.2 b hb
end
end
end
section
section
variable {body : List shape_Node} {cs : List Int}
def R5 (body : List shape_Node) (cs : List Int) (s : WS) (r : (List shape_Node × List Int × Int × Bool) ⊕ (List shape_Node × List Int × Int × Bool × List Int)) : Prop := (r = .inl (body, cs, s.tk, s.en) ∧ s.out = []) ∨ r = .inr (body, cs, s.tk, s.en, s.out)
def P5 (body : List shape_Node) (cs : List Int) (t : GT) : Prop := ∀ (pre post : List shape_Node) (s : WS), s.ok → s.out = [] → body = pre ++ (t.fl ++ post) → W (fun N => (SS_scope_walker_tree_v577 N) (pre.length : Int) body cs s.tk s.en) (R5 body cs (t.wk cs pre.length s))
theorem p9s9 (hlen : body.length ≤ 1000) {t : GT} {w : Int} (h : t.ok w) {pre post : List shape_Node} {s : WS} (hs : s.ok) (hb : body = pre ++ (t.fl ++ post)) : W (fun N => s_scope_walker_tree_v950 N (pre.length : Int) body cs s.tk s.en s.out) (R9 body cs (t.wk cs pre.length s)) := p9 hlen t w h pre post s hs hb
theorem p5_leaf {neg : Bool} {v ty : List UInt8} {o : Option TT} : P5 body cs (.leaf neg v ty o) := by
  intro pre post s hs ho hb
  refine W.shift ?_
  show W (fun N => b_scope_walker_tree_v577 N (SS_scope_walker_tree_v577 N) _ _ _ _ _) _
  have hix := ix_pre (l := body) (pre := pre) (e := ⟨kL neg, 0, 0, 0, v, ty, oT o⟩) (r := post) hb
  rw [GT.wk]
  simp only [b_scope_walker_tree_v577, hix, Option.bind_some]
  cases he : s.en
  · simp only [cond_false, Bool.false_eq_true, if_false]
    have hl : ∀ N, s_scope_leaf N ⟨kL neg, 0, 0, 0, v, ty, oT o⟩ = some true := fun N => by cases neg <;> rfl
    simp only [hl, Option.bind_some, cond_true, W.ret, ho]
    exact .inr rfl
  · simp only [cond_true, if_true, W.ret]
    exact .inl ⟨by rw [he], ho⟩
theorem p5_rep {lo hi : Int} {a : GT} {w : Int} (h : (GT.rep lo hi a).ok w) (hlen : body.length ≤ 1000) : P5 body cs (.rep lo hi a) := by
  intro pre post s hs ho hb
  refine W.shift ?_
  show W (fun N => b_scope_walker_tree_v577 N (SS_scope_walker_tree_v577 N) _ _ _ _ _) _
  have hix := ix_pre (l := body) (pre := pre) (e := ⟨3, 1, lo, hi, [], [], []⟩) (r := a.fl ++ post) (by rw [hb]; simp [GT.fl])
  have hpl : pre.length ≤ 1000 := by rw [hb] at hlen; simp at hlen; omega
  obtain ⟨⟨l1, l2, l3, l4, _, _⟩, hao⟩ := h
  rw [GT.wk]
  simp only [b_scope_walker_tree_v577, hix, Option.bind_some, bothN_eq]
  cases he : s.en
  rotate_left
  · simp only [cond_true, if_true, W.ret]
    exact .inl ⟨by rw [he], ho⟩
  simp only [cond_false, Bool.false_eq_true, if_false]
  have hl : ∀ N, s_scope_leaf N ⟨3, 1, lo, hi, [], [], []⟩ = some false := fun N => rfl
  obtain ⟨c1, c2, c3⟩ := cho_ok (cs := cs) hs
  have hco := cho_out cs s
  rw [← he]
  simp only [hl, Option.bind_some, cond_false, show ((3 : Int) == 2) = false from rfl, show ((3 : Int) == 3) = true from rfl, cond_true, e_choice2 hs, W.gd, i64b_eq]
  generalize hc : cho cs s = q at c1 c2 c3 hco ⊢
  obtain ⟨c, s'⟩ := q
  simp only at c1 c2 c3 hco ⊢
  rw [ho] at hco
  have loop : ∀ times : Int, times = timG lo hi c → W (fun i => lp6 (s_scope_walker_tree_v577_2 i (SS_scope_walker_tree_v577 i) (pre.length : Int) times) i 0 body cs s'.tk s'.en []) (R5 body cs (iterW (fun s => GT.wk cs a (pre.length + 1) s) times.toNat s')) := by
    intro times htm
    refine W.lp6 (N := fun N => N) (P := fun i y1 y2 tk en out => ∃ u : WS, u.ok ∧ y1 = body ∧ y2 = cs ∧ tk = u.tk ∧ en = u.en ∧ out = u.out ∧ 0 ≤ i ∧ i ≤ max 0 times ∧ iterW (fun s => GT.wk cs a (pre.length + 1) s) (times - i).toNat u = iterW (fun s => GT.wk cs a (pre.length + 1) s) times.toNat s') (m := fun i _ _ _ _ _ => (times - i).toNat)
      ⟨s', c1, rfl, rfl, rfl, rfl, hco.symm, Int.le_refl _, by omega, by rw [Int.sub_zero]⟩ ?_
    rintro F i y1 y2 tk en out ⟨u, hu, rfl, rfl, rfl, rfl, rfl, i0, i1, i2⟩ hn
    simp only [s_scope_walker_tree_v577_2]
    have htb : times ≤ 100 := by rw [htm]; unfold timG; split <;> omega
    by_cases hlt : i < times
    · simp only [show ltB i times = true from ltB_iff.2 hlt, cond_true]
      obtain ⟨m, hm⟩ : ∃ m, (times - i).toNat = m + 1 := ⟨(times - i).toNat - 1, by omega⟩
      cases hue : u.en
      · simp only [Bool.not_false, cond_true, W.gd, i64b_eq]
        refine ⟨by omega, ?_⟩
        have hcall := p9s9 (cs := y2) hlen hao (pre := pre ++ [⟨3, 1, lo, hi, [], [], []⟩]) (post := post) hu (by rw [hb]; simp [GT.fl])
        have e1 : ((pre ++ [(⟨3, 1, lo, hi, [], [], []⟩ : shape_Node)]).length : Int) = (pre.length : Int) + 1 := by simp
        have e2 : (pre ++ [(⟨3, 1, lo, hi, [], [], []⟩ : shape_Node)]).length = pre.length + 1 := by simp
        rw [e1, e2, hue] at hcall
        refine W.call hcall ?_
        have hu' : (a.wk y2 (pre.length + 1) u).ok := wk_ok a _ _ hu
        rw [hm, iterW, if_neg (by rw [hue]; simp)] at i2
        rintro r (rfl | rfl)
        all_goals
          simp only [Sum.elim_inl, Sum.elim_inr, W.gd, i64b_eq]
          exact ⟨by omega, hn _ _ _ _ _ _ ⟨_, hu', rfl, rfl, rfl, rfl, rfl, by omega, by omega, by rw [show (times - (i + 1)).toNat = m by omega]; exact i2⟩ (by omega)⟩
      · simp only [Bool.not_true, cond_false, W.ret]
        rw [iterW_en hue] at i2
        rw [← i2]
        exact .inr (by rw [hue])
    · simp only [show ltB i times = false from ltB_not.2 (by omega), cond_false, W.ret]
      rw [show (times - i).toNat = 0 by omega, iterW] at i2
      rw [← i2]
      exact .inr rfl
  refine ⟨by omega, ?_⟩
  by_cases hh : 0 < hi
  · simp only [show ltB 0 hi = true from ltB_iff.2 hh, cond_true]
    have := loop (min (lo + c) hi) (by rw [timG, if_pos hh])
    rw [timG, if_pos hh]
    exact this
  · simp only [show ltB 0 hi = false from ltB_not.2 (by omega), cond_false]
    have := loop (lo + c) (by rw [timG, if_neg hh])
    rw [timG, if_neg hh]
    exact this
/-- A kid, and what lies ahead of it and behind. -/
theorem kid_at {pre post : List shape_Node} {e : shape_Node} {bs bs1 bs2 : List GT} {b : GT} (hb : body = pre ++ [e] ++ (GT.fls bs ++ post)) (hs : bs = bs1 ++ b :: bs2) : body = (pre ++ [e] ++ GT.fls bs1) ++ (b.fl ++ (GT.fls bs2 ++ post)) ∧ (pre ++ [e] ++ GT.fls bs1).length = pre.length + 1 + (GT.fls bs1).length ∧ (GT.fls bs1).length + b.fl.length ≤ (GT.fls bs).length := by
  have : GT.fls bs = GT.fls bs1 ++ (b.fl ++ GT.fls bs2) := by rw [hs, fls_app, GT.fls]
  refine ⟨?_, by simp; omega, by rw [this]; simp only [List.length_append]; omega⟩
  rw [hb, this]
  simp only [List.append_assoc]
theorem p5_lst {alt : Bool} {bs : List GT} {w : Int} (h : (GT.lst alt bs).ok w) (ih : ∀ b ∈ bs, P5 body cs b) (hlen : body.length ≤ 1000) : P5 body cs (.lst alt bs) := by
  intro pre post s hs ho hb
  refine W.shift ?_
  show W (fun N => b_scope_walker_tree_v577 N (SS_scope_walker_tree_v577 N) _ _ _ _ _) _
  have hb' : body = pre ++ [(⟨kA alt, (bs.length : Int), 0, 0, [], [], []⟩ : shape_Node)] ++ (GT.fls bs ++ post) := by rw [hb]; simp [GT.fl]
  have hix := ix_pre (l := body) (pre := pre) (e := ⟨kA alt, (bs.length : Int), 0, 0, [], [], []⟩) (r := GT.fls bs ++ post) (by rw [hb]; simp [GT.fl])
  have hpl : pre.length + (GT.fls bs).length + 1 ≤ 1000 := by rw [hb'] at hlen; simp at hlen; omega
  obtain ⟨_, k1, k2, k3⟩ := h
  have hoA := oks_A k3
  rw [GT.wk]
  simp only [b_scope_walker_tree_v577, hix, Option.bind_some, bothN_eq]
  cases he : s.en
  rotate_left
  · simp only [cond_true, if_true, W.ret]
    exact .inl ⟨by rw [he], ho⟩
  simp only [cond_false, Bool.false_eq_true, if_false]
  have hl : ∀ N, s_scope_leaf N ⟨kA alt, (bs.length : Int), 0, 0, [], [], []⟩ = some false := fun N => by cases alt <;> rfl
  rw [← he]
  simp only [hl, Option.bind_some, cond_false]
  cases alt
  · simp only [show ((kA false) == 2) = false from rfl, show ((kA false) == 3) = false from rfl, cond_false, W.gd, i64b_eq, Bool.false_eq_true, if_false]
    refine ⟨by omega, ?_⟩
    refine W.lp7 (N := fun N => N) (P := fun v i y1 y2 tk en out => ∃ (u : WS) (bs1 bs2 : List GT), u.ok ∧ bs = bs1 ++ bs2 ∧ v = ((pre.length + 1 + (GT.fls bs1).length : Nat) : Int) ∧ i = (bs1.length : Int) ∧ y1 = body ∧ y2 = cs ∧ tk = u.tk ∧ en = u.en ∧ out = u.out ∧ GT.wks cs bs2 (pre.length + 1 + (GT.fls bs1).length) u = GT.wks cs bs (pre.length + 1) s) (m := fun _ i _ _ _ _ _ => bs.length - i.toNat)
      ⟨s, [], bs, hs, rfl, by simp [GT.fls], rfl, rfl, rfl, rfl, rfl, ho.symm, by simp [GT.fls]⟩ ?_
    rintro F v i y1 y2 tk en out ⟨u, bs1, bs2, hu, hbs, rfl, rfl, rfl, rfl, rfl, rfl, rfl, hw⟩ hn
    simp only [s_scope_walker_tree_v577_3]
    cases bs2 with
    | nil =>
      rw [List.append_nil] at hbs
      simp only [show ltB (bs1.length : Int) (bs.length : Int) = false from ltB_not.2 (by rw [hbs]; omega), cond_false, W.ret]
      rw [GT.wks] at hw
      rw [← hw]
      exact .inr rfl
    | cons b bs2 =>
      have hbl : bs.length = bs1.length + (bs2.length + 1) := by rw [hbs]; simp
      simp only [show ltB (bs1.length : Int) (bs.length : Int) = true from ltB_iff.2 (by omega), cond_true]
      cases hue : u.en
      · simp only [Bool.not_false, cond_true]
        obtain ⟨s1, s2, hfl⟩ := kid_at hb' hbs
        obtain ⟨wb, hwb⟩ := hoA b (by rw [hbs]; simp)
        have hcall := p9s9 (cs := y2) hlen hwb hu s1
        rw [s2, hue] at hcall
        refine W.call hcall ?_
        rw [GT.wks, if_neg (by rw [hue]; simp)] at hw
        have hsz := w_size hwb s1 hlen
        rw [s2] at hsz
        have hu' : (b.wk y2 (pre.length + 1 + (GT.fls bs1).length) u).ok := wk_ok b _ _ hu
        rintro r (rfl | rfl)
        all_goals
          simp only [Sum.elim_inl, Sum.elim_inr]
          refine W.call hsz ?_
          rintro _ rfl
          simp only [W.gd, i64b_eq]
          refine ⟨by omega, by omega, hn _ _ _ _ _ _ _ ⟨_, bs1 ++ [b], bs2, hu', by rw [hbs]; simp, by rw [fls_app]; simp only [GT.fls, List.length_append, List.append_nil]; omega, by simp, rfl, rfl, rfl, rfl, rfl, ?_⟩ (by omega)⟩
          rw [← hw, fls_app]
          simp only [GT.fls, List.length_append, List.append_nil, Nat.add_assoc]
      · simp only [Bool.not_true, cond_false, W.ret]
        rw [wks_en hue] at hw
        rw [← hw]
        exact .inr (by rw [hue])
  · obtain ⟨c1, c2, c3⟩ := cho_ok (cs := cs) hs
    have hco := cho_out cs s
    simp only [show ((kA true) == 2) = true from rfl, cond_true, W.gd, i64b_eq, if_true, e_choice2 hs, Option.bind_some]
    generalize hc : cho cs s = q at c1 c2 c3 hco ⊢
    obtain ⟨c, s'⟩ := q
    simp only at c1 c2 c3 hco ⊢
    rw [ho] at hco
    refine ⟨by omega, by rw [bne_iff_ne]; omega, ?_⟩
    have hmod : Int.tmod c (bs.length : Int) = ((c.toNat % bs.length : Nat) : Int) := by
      obtain ⟨n, rfl⟩ := Int.eq_ofNat_of_zero_le c2
      rfl
    have hkl : c.toNat % bs.length < bs.length := Nat.mod_lt _ (by omega)
    rw [hmod]
    generalize c.toNat % bs.length = k at hkl ⊢
    refine W.lp2 (N := fun N => N) (P := fun v i => ∃ (bs1 bs2 : List GT), bs = bs1 ++ bs2 ∧ v = ((pre.length + 1 + (GT.fls bs1).length : Nat) : Int) ∧ i = (bs1.length : Int) ∧ bs1.length ≤ k) (m := fun _ i => k - i.toNat)
      ⟨[], bs, rfl, by simp [GT.fls], rfl, by simp⟩ ?_
    rintro F v i ⟨bs1, bs2, hbs, rfl, rfl, hk⟩ hn
    cases bs2 with
    | nil => rw [List.append_nil] at hbs; rw [hbs] at hkl; omega
    | cons b bs2 =>
      obtain ⟨s1, s2, hfl⟩ := kid_at hb' hbs
      simp only [s_scope_walker_tree_v577_1]
      by_cases hlt : bs1.length < k
      · obtain ⟨wb, hwb⟩ := hoA b (by rw [hbs]; simp)
        have hsz := w_size hwb s1 hlen
        rw [s2] at hsz
        simp only [show ltB (bs1.length : Int) (k : Int) = true from ltB_iff.2 (by omega), cond_true]
        refine W.call hsz ?_
        rintro _ rfl
        simp only [W.gd, i64b_eq]
        exact ⟨by omega, by omega, hn _ _ ⟨bs1 ++ [b], bs2, by rw [hbs]; simp, by rw [fls_app]; simp only [GT.fls, List.length_append, List.append_nil]; omega, by simp, by simp; omega⟩ (by omega)⟩
      · obtain rfl : k = bs1.length := by omega
        simp only [show ltB (bs1.length : Int) (bs1.length : Int) = false from ltB_irr _, cond_false]
        have hcall := ih b (by rw [hbs]; simp) _ _ s' c1 hco s1
        rw [s2] at hcall
        refine W.bind (W.lift hcall) ?_
        have hwk := wkp_at (cs := cs) (b := b) (bs2 := bs2) bs1 (pre.length + 1) s'
        rw [← hbs] at hwk
        rw [hwk]
        rintro r (⟨rfl, hz⟩ | rfl)
        · simp only [Sum.elim_inl, W.ret]; exact .inl ⟨rfl, hz⟩
        · simp only [Sum.elim_inr, W.ret]; exact .inr rfl
mutual
theorem p5 (hlen : body.length ≤ 1000) : ∀ (t : GT) (w : Int), t.ok w → P5 body cs t
  | .leaf neg v ty o, w, h => p5_leaf
  | .rep lo hi a, w, h => p5_rep h hlen
  | .lst alt bs, w, h => p5_lst h (p5s hlen bs (kA alt) h.2.2.2) hlen
theorem p5s (hlen : body.length ≤ 1000) : ∀ (bs : List GT) (w : Int), GT.oks bs w → ∀ b ∈ bs, P5 body cs b
  | [], w, _, b, hb => by cases hb
  | a :: r, w, h, b, hb => by
    rcases List.mem_cons.1 hb with e | hb
    · rw [e]; exact p5 hlen a w h.1
    · exact p5s hlen r w h.2 b hb
end
/-- The document's walker. -/
def offs : List GT → Nat → List Int
  | [], _ => []
  | b :: bs, i => (i : Int) :: offs bs (i + b.fl.length)
theorem offs_app : ∀ (a b : List GT) (i : Nat), offs (a ++ b) i = offs a i ++ offs b (i + (GT.fls a).length)
  | [], b, i => by simp [offs, GT.fls]
  | x :: a, b, i => by
    simp only [List.cons_append, offs, GT.fls, List.length_append]
    rw [offs_app a b, Nat.add_assoc]
theorem offs_len : ∀ (a : List GT) (i : Nat), (offs a i).length = a.length
  | [], i => rfl
  | x :: a, i => by simp [offs, offs_len a]
theorem offs_at {bs bs1 bs2 : List GT} {b : GT} (hs : bs = bs1 ++ b :: bs2) (i : Nat) : ix (offs bs i) (bs1.length : Int) = some ((i + (GT.fls bs1).length : Nat) : Int) := by
  rw [hs, offs_app, ix_nat', offs, List.getElem?_append_right (by rw [offs_len]; omega), offs_len]; simp
theorem w_kids {t : GT} {w : Int} (ht : t.ok w) {e : shape_Node} (hf : t.fl = e :: GT.fls t.kd) {pre post : List shape_Node} (hb : body = pre ++ (t.fl ++ post)) (hlen : body.length ≤ 1000) : W (fun N => s_ref15_kids N body (pre.length : Int)) (· = offs t.kd (pre.length + 1)) := by
  have hb' : body = pre ++ [e] ++ (GT.fls t.kd ++ post) := by rw [hb, hf]; simp
  have hix := ix_pre (l := body) (pre := pre) (e := e) (r := GT.fls t.kd ++ post) (by rw [hb, hf]; simp)
  have hpl : pre.length + (GT.fls t.kd).length + 1 ≤ 1000 := by rw [hb'] at hlen; simp at hlen; omega
  have hk : kdG e = (t.kd.length : Int) := by
    obtain ⟨e', h1, h2⟩ := fl_kd t
    rw [hf] at h1
    cases h1
    exact h2 w ht
  have hkb : t.kd.length ≤ 1000 := by have := kdG_le e; omega
  obtain ⟨w', hw'⟩ := kd_ok ht
  have hoA := oks_A hw'
  simp only [s_ref15_kids, W.gd, i64b_eq]
  refine ⟨by omega, ?_⟩
  refine W.lp3 (N := fun N => N) (P := fun v i ys => ∃ bs1 bs2 : List GT, t.kd = bs1 ++ bs2 ∧ v = ((pre.length + 1 + (GT.fls bs1).length : Nat) : Int) ∧ i = (bs1.length : Int) ∧ ys = offs bs1 (pre.length + 1)) (m := fun _ i _ => t.kd.length - i.toNat) ⟨[], t.kd, rfl, by simp [GT.fls], rfl, rfl⟩ ?_
  rintro F v i ys ⟨bs1, bs2, hbs, rfl, rfl, rfl⟩ hn
  simp only [s_ref15_kids_1, hix, Option.bind_some, e_rkdG, hk]
  cases bs2 with
  | nil =>
    rw [List.append_nil] at hbs
    simp only [show ltB (bs1.length : Int) (t.kd.length : Int) = false from ltB_not.2 (by rw [hbs]; omega), cond_false, W.ret]
    rw [hbs]
  | cons b bs2 =>
    have hbl : t.kd.length = bs1.length + (bs2.length + 1) := by rw [hbs]; simp
    obtain ⟨s1, s2, hfl⟩ := kid_at hb' hbs
    obtain ⟨wb, hwb⟩ := hoA b (by rw [hbs]; simp)
    have hsz := w_size13 hwb s1 hlen
    rw [s2] at hsz
    simp only [show ltB (bs1.length : Int) (t.kd.length : Int) = true from ltB_iff.2 (by omega), cond_true, W.gd, offs_len]
    refine ⟨Nat.ble_eq_true_of_le (by omega), W.call hsz ?_⟩
    rintro _ rfl
    simp only [W.gd, i64b_eq]
    refine ⟨by omega, by omega, hn _ _ _ ⟨bs1 ++ [b], bs2, by rw [hbs]; simp, by rw [fls_app]; simp only [GT.fls, List.length_append, List.append_nil]; omega, by simp, ?_⟩ (by omega)⟩
    rw [offs_app]; rfl
theorem e_rchoice {s : WS} (h : s.ok) (N : Nat) : s_ref15_choice N ⟨cs, s.tk, s.out, s.en⟩ = some ((cho cs s).1, ⟨cs, (cho cs s).2.tk, (cho cs s).2.out, (cho cs s).2.en⟩) := by
  obtain ⟨h1, h2, h3, h4⟩ := h
  unfold s_ref15_choice cho
  by_cases h5 : s.tk = 200
  · simp [h5]
  · rw [if_neg h5]
    simp only [show (s.tk == 200) = false by simpa using h5, cond_false, show i64b (s.tk + 1) = true from i64b_eq.2 (by omega), gd_true]
    by_cases h6 : s.tk < (cs.length : Int)
    · have h7 : s.tk.toNat < cs.length := by omega
      simp only [show ltB s.tk (cs.length : Int) = true from ltB_iff.2 h6, cond_true]
      rw [show ix cs s.tk = some cs[s.tk.toNat] by rw [ix, if_pos h1]; simp [h7], getD_lt h7, Option.bind_some]
    · simp only [show ltB s.tk (cs.length : Int) = false from ltB_not.2 (by omega), cond_false]
      have : cs.getD s.tk.toNat 0 = 0 := by
        rw [List.getD, List.getElem?_eq_none (by omega)]; rfl
      rw [this]; rfl
def RW' (body : List shape_Node) (cs : List Int) (t : GT) : Prop := ∀ (pre post : List shape_Node) (s : WS), s.ok → body = pre ++ (t.fl ++ post) → W (fun N => (SS_ref15_walk N) body (pre.length : Int) ⟨cs, s.tk, s.out, s.en⟩) (· = ⟨cs, (t.wk cs pre.length s).tk, (t.wk cs pre.length s).out, (t.wk cs pre.length s).en⟩)
theorem rw_leaf {neg : Bool} {v ty : List UInt8} {o : Option TT} : RW' body cs (.leaf neg v ty o) := by
  intro pre post s hs hb
  refine W.shift ?_
  show W (fun N => b_ref15_walk N (SS_ref15_walk N) _ _ _) _
  have hix := ix_pre (l := body) (pre := pre) (e := ⟨kL neg, 0, 0, 0, v, ty, oT o⟩) (r := post) hb
  obtain ⟨h1, h2, h3, h4⟩ := hs
  rw [GT.wk]
  simp only [b_ref15_walk, hix, Option.bind_some]
  cases he : s.en
  · simp only [cond_false, Bool.false_eq_true, if_false]
    have hl : ∀ N, s_ref15_Leaf N ⟨kL neg, 0, 0, 0, v, ty, oT o⟩ = some true := fun N => by cases neg <;> rfl
    simp only [hl, Option.bind_some, cond_true, W.gd, W.ret, and_true]
    exact ⟨Nat.ble_eq_true_of_le (by omega), Nat.ble_eq_true_of_le (by omega)⟩
  · simp only [cond_true, if_true, W.ret, he]
theorem rw_rep {lo hi : Int} {a : GT} {w : Int} (h : (GT.rep lo hi a).ok w) (ih : RW' body cs a) (hlen : body.length ≤ 1000) : RW' body cs (.rep lo hi a) := by
  intro pre post s hs hb
  have hkids := w_kids (body := body) h (e := ⟨3, 1, lo, hi, [], [], []⟩) (by simp [GT.fl, GT.kd, GT.fls]) hb hlen
  refine W.shift ?_
  show W (fun N => b_ref15_walk N (SS_ref15_walk N) _ _ _) _
  have hix := ix_pre (l := body) (pre := pre) (e := ⟨3, 1, lo, hi, [], [], []⟩) (r := a.fl ++ post) (by rw [hb]; simp [GT.fl])
  have hpl : pre.length ≤ 1000 := by rw [hb] at hlen; simp at hlen; omega
  obtain ⟨⟨l1, l2, l3, l4, _, _⟩, _⟩ := h
  rw [GT.wk]
  simp only [b_ref15_walk, hix, Option.bind_some, bothN_eq]
  cases he : s.en
  rotate_left
  · simp only [cond_true, if_true, W.ret, he]
  simp only [cond_false, Bool.false_eq_true, if_false]
  have hl : ∀ N, s_ref15_Leaf N ⟨3, 1, lo, hi, [], [], []⟩ = some false := fun N => rfl
  obtain ⟨c1, c2, c3⟩ := cho_ok (cs := cs) hs
  rw [← he]
  simp only [hl, Option.bind_some, cond_false]
  refine W.call hkids ?_
  rintro _ rfl
  simp only [show ((3 : Int) == 2) = false from rfl, show ((3 : Int) == 3) = true from rfl, cond_true, cond_false, e_rchoice hs, Option.bind_some, W.gd, i64b_eq]
  generalize hc : cho cs s = q at c1 c2 c3 ⊢
  obtain ⟨c, s'⟩ := q
  simp only at c1 c2 c3 ⊢
  have loop : ∀ times : Int, times = timG lo hi c → W (fun i => lp5 (s_ref15_walk_1 i (SS_ref15_walk i) body (pre.length : Int) times) i 0 cs s'.tk s'.out s'.en) (· = ⟨cs, (iterW (fun s => GT.wk cs a (pre.length + 1) s) times.toNat s').tk, (iterW (fun s => GT.wk cs a (pre.length + 1) s) times.toNat s').out, (iterW (fun s => GT.wk cs a (pre.length + 1) s) times.toNat s').en⟩) := by
    intro times htm
    refine W.lp5 (N := fun N => N) (P := fun i y2 tk out en => ∃ u : WS, u.ok ∧ y2 = cs ∧ tk = u.tk ∧ en = u.en ∧ out = u.out ∧ 0 ≤ i ∧ i ≤ max 0 times ∧ iterW (fun s => GT.wk cs a (pre.length + 1) s) (times - i).toNat u = iterW (fun s => GT.wk cs a (pre.length + 1) s) times.toNat s') (m := fun i _ _ _ _ => (times - i).toNat)
      ⟨s', c1, rfl, rfl, rfl, rfl, Int.le_refl _, by omega, by rw [Int.sub_zero]⟩ ?_
    rintro F i y2 tk out en ⟨u, hu, rfl, rfl, rfl, rfl, i0, i1, i2⟩ hn
    simp only [s_ref15_walk_1]
    have htb : times ≤ 100 := by rw [htm]; unfold timG; split <;> omega
    by_cases hlt : i < times
    · simp only [show ltB i times = true from ltB_iff.2 hlt, cond_true]
      obtain ⟨m, hm⟩ : ∃ m, (times - i).toNat = m + 1 := ⟨(times - i).toNat - 1, by omega⟩
      cases hue : u.en
      · simp only [Bool.not_false, cond_true, W.gd, i64b_eq]
        refine ⟨by omega, ?_⟩
        have hcall := ih (pre ++ [⟨3, 1, lo, hi, [], [], []⟩]) post u hu (by rw [hb]; simp [GT.fl])
        have e1 : ((pre ++ [(⟨3, 1, lo, hi, [], [], []⟩ : shape_Node)]).length : Int) = (pre.length : Int) + 1 := by simp
        have e2 : (pre ++ [(⟨3, 1, lo, hi, [], [], []⟩ : shape_Node)]).length = pre.length + 1 := by simp
        rw [e1, e2, hue] at hcall
        refine W.bind (W.lift hcall) ?_
        have hu' : (a.wk y2 (pre.length + 1) u).ok := wk_ok a _ _ hu
        rw [hm, iterW, if_neg (by rw [hue]; simp)] at i2
        rintro r rfl
        simp only [W.gd, i64b_eq]
        exact ⟨by omega, hn _ _ _ _ _ ⟨_, hu', rfl, rfl, rfl, rfl, by omega, by omega, by rw [show (times - (i + 1)).toNat = m by omega]; exact i2⟩ (by omega)⟩
      · simp only [Bool.not_true, cond_false, W.ret]
        rw [iterW_en hue] at i2
        rw [← i2, hue]
    · simp only [show ltB i times = false from ltB_not.2 (by omega), cond_false, W.ret]
      rw [show (times - i).toNat = 0 by omega, iterW] at i2
      rw [← i2]
  refine ⟨by omega, ?_⟩
  by_cases hh : 0 < hi
  · simp only [show ltB 0 hi = true from ltB_iff.2 hh, cond_true]
    have := loop (min hi (lo + c)) (by rw [timG, if_pos hh, Int.min_comm])
    rw [timG, if_pos hh, Int.min_comm (lo + c) hi]
    exact this
  · simp only [show ltB 0 hi = false from ltB_not.2 (by omega), cond_false]
    have := loop (lo + c) (by rw [timG, if_neg hh])
    rw [timG, if_neg hh]
    exact this
theorem rw_lst {alt : Bool} {bs : List GT} {w : Int} (h : (GT.lst alt bs).ok w) (ih : ∀ b ∈ bs, RW' body cs b) (hlen : body.length ≤ 1000) : RW' body cs (.lst alt bs) := by
  intro pre post s hs hb
  have hkids := w_kids (body := body) h (e := ⟨kA alt, (bs.length : Int), 0, 0, [], [], []⟩) rfl hb hlen
  have hkids : W (fun N => s_ref15_kids N body (pre.length : Int)) (· = offs bs (pre.length + 1)) := hkids
  refine W.shift ?_
  show W (fun N => b_ref15_walk N (SS_ref15_walk N) _ _ _) _
  have hb' : body = pre ++ [(⟨kA alt, (bs.length : Int), 0, 0, [], [], []⟩ : shape_Node)] ++ (GT.fls bs ++ post) := by rw [hb]; simp [GT.fl]
  have hix := ix_pre (l := body) (pre := pre) (e := ⟨kA alt, (bs.length : Int), 0, 0, [], [], []⟩) (r := GT.fls bs ++ post) (by rw [hb]; simp [GT.fl])
  have hpl : pre.length + (GT.fls bs).length + 1 ≤ 1000 := by rw [hb'] at hlen; simp at hlen; omega
  obtain ⟨_, k1, k2, k3⟩ := h
  rw [GT.wk]
  simp only [b_ref15_walk, hix, Option.bind_some, bothN_eq]
  cases he : s.en
  rotate_left
  · simp only [cond_true, if_true, W.ret, he]
  simp only [cond_false, Bool.false_eq_true, if_false]
  have hl : ∀ N, s_ref15_Leaf N ⟨kA alt, (bs.length : Int), 0, 0, [], [], []⟩ = some false := fun N => by cases alt <;> rfl
  rw [← he]
  simp only [hl, Option.bind_some, cond_false]
  refine W.call hkids ?_
  rintro _ rfl
  cases alt
  · simp only [show ((kA false) == 2) = false from rfl, show ((kA false) == 3) = false from rfl, cond_false, Bool.false_eq_true, if_false]
    refine W.lp5 (N := fun N => N) (P := fun i y2 tk out en => ∃ (u : WS) (bs1 bs2 : List GT), u.ok ∧ bs = bs1 ++ bs2 ∧ i = (bs1.length : Int) ∧ y2 = cs ∧ tk = u.tk ∧ en = u.en ∧ out = u.out ∧ GT.wks cs bs2 (pre.length + 1 + (GT.fls bs1).length) u = GT.wks cs bs (pre.length + 1) s) (m := fun i _ _ _ _ => bs.length - i.toNat)
      ⟨s, [], bs, hs, rfl, rfl, rfl, rfl, rfl, rfl, by simp [GT.fls]⟩ ?_
    rintro F i y2 tk out en ⟨u, bs1, bs2, hu, hbs, rfl, rfl, rfl, rfl, rfl, hw⟩ hn
    simp only [s_ref15_walk_2, offs_len]
    cases bs2 with
    | nil =>
      rw [List.append_nil] at hbs
      simp only [show ltB (bs1.length : Int) (bs.length : Int) = false from ltB_not.2 (by rw [hbs]; omega), cond_false, W.ret]
      rw [GT.wks] at hw
      rw [← hw]
    | cons b bs2 =>
      have hbl : bs.length = bs1.length + (bs2.length + 1) := by rw [hbs]; simp
      simp only [show ltB (bs1.length : Int) (bs.length : Int) = true from ltB_iff.2 (by omega), cond_true]
      cases hue : u.en
      · simp only [Bool.not_false, cond_true, offs_at hbs, Option.bind_some]
        obtain ⟨s1, s2, hfl⟩ := kid_at hb' hbs
        have hcall := ih b (by rw [hbs]; simp) _ _ u hu s1
        rw [s2, hue] at hcall
        refine W.bind (W.lift hcall) ?_
        rw [GT.wks, if_neg (by rw [hue]; simp)] at hw
        have hu' : (b.wk y2 (pre.length + 1 + (GT.fls bs1).length) u).ok := wk_ok b _ _ hu
        rintro r rfl
        simp only [W.gd, i64b_eq]
        refine ⟨by omega, hn _ _ _ _ _ ⟨_, bs1 ++ [b], bs2, hu', by rw [hbs]; simp, by simp, rfl, rfl, rfl, rfl, ?_⟩ (by omega)⟩
        rw [← hw, fls_app]
        simp only [GT.fls, List.length_append, List.append_nil, Nat.add_assoc]
      · simp only [Bool.not_true, cond_false, W.ret]
        rw [wks_en hue] at hw
        rw [← hw, hue]
  · obtain ⟨c1, c2, c3⟩ := cho_ok (cs := cs) hs
    simp only [show ((kA true) == 2) = true from rfl, cond_true, if_true, e_rchoice hs, Option.bind_some, offs_len, W.gd]
    generalize hc : cho cs s = q at c1 c2 c3 ⊢
    obtain ⟨c, s'⟩ := q
    simp only at c1 c2 c3 ⊢
    refine ⟨by rw [bne_iff_ne]; omega, ?_⟩
    have hmod : Int.tmod c (bs.length : Int) = ((c.toNat % bs.length : Nat) : Int) := by
      obtain ⟨n, rfl⟩ := Int.eq_ofNat_of_zero_le c2
      rfl
    have hkl : c.toNat % bs.length < bs.length := Nat.mod_lt _ (by omega)
    rw [hmod]
    generalize c.toNat % bs.length = k at hkl ⊢
    obtain ⟨bs1, b, bs2, hbs, rfl⟩ : ∃ bs1 b bs2, bs = bs1 ++ b :: bs2 ∧ k = bs1.length := ⟨bs.take k, bs[k], bs.drop (k + 1), by simp, by simp; omega⟩
    obtain ⟨s1, s2, hfl⟩ := kid_at hb' hbs
    rw [offs_at hbs]
    simp only [Option.bind_some]
    have hcall := ih b (by rw [hbs]; simp) _ _ s' c1 s1
    rw [s2] at hcall
    refine W.bind hcall ?_
    have hwk := wkp_at (cs := cs) (b := b) (bs2 := bs2) bs1 (pre.length + 1) s'
    rw [← hbs] at hwk
    rw [hwk]
    rintro r rfl
    simp only [W.ret]
mutual
theorem rw' (hlen : body.length ≤ 1000) : ∀ (t : GT) (w : Int), t.ok w → RW' body cs t
  | .leaf neg v ty o, w, h => rw_leaf
  | .rep lo hi a, w, h => rw_rep h (rw' hlen a 3 h.2) hlen
  | .lst alt bs, w, h => rw_lst h (rws' hlen bs (kA alt) h.2.2.2) hlen
theorem rws' (hlen : body.length ≤ 1000) : ∀ (bs : List GT) (w : Int), GT.oks bs w → ∀ b ∈ bs, RW' body cs b
  | [], w, _, b, hb => by cases hb
  | a :: r, w, h, b, hb => by
    rcases List.mem_cons.1 hb with e | hb
    · rw [e]; exact rw' hlen a w h.1
    · exact rws' hlen r w h.2 b hb
end
end
end
section
open Go Classical
theorem w_aw15 {ι : Type} [Lim ι] (N : ι → Nat) : W (fun i => (s_law15_awake (N i)).bind fun a => some a) (· = true) := by
  simp only [s_law15_awake, Option.bind_some, W.ret]
def s00 : WS := ⟨0, [], false⟩
theorem s00_ok : s00.ok := ⟨by decide, by decide, by simp [s00], fun _ => by simp [s00]⟩
theorem w_sameInts (a : List Int) (hl : a.length ≤ 100000) : W (fun N => s_law15_sameInts N a a) (· = true) := by
  simp only [s_law15_sameInts, bne_self_eq_false, cond_false]
  refine wf1 (l := a) (fun _ => True) [] rfl rfl (by omega) trivial ?_ ?_
  · intro F pre e rest hl' h1 h2 h3 _ hn
    simp only [s_law15_sameInts_1, h1, h2, h3, Option.bind_some, cond_true, bne_self_eq_false, cond_false, gd_true]
    exact hn trivial
  · intro F h1 _
    simp only [s_law15_sameInts_1, h1, cond_false, W.ret]
theorem full_ScopeWalks (p : shape_Pattern) (choices : List Int) (hp : ok_shape_Pattern p) (hc : okL (inK .i64) choices) : W (fun N => s_law15_ScopeWalks N p choices) (· = true) := by
  have hob : ∀ n ∈ p.Body, okN n.Test := fun n hn m hm => inK_u64 (((hp.1.1 n hn).2.2.2.2.2.2.1 m hm).2.2.2.2.2.2.1)
  simp only [s_law15_ScopeWalks]
  refine W.call (w_gOver p hp) fun b hb => ?_
  refine W.cond.2 ⟨fun _ => w_aw15 _, fun hb0 => ?_⟩
  obtain ⟨l50, _, lt⟩ := hb (by have := ltB_not.1 hb0; omega)
  refine W.cond.2 ⟨fun _ => w_aw15 _, fun hb1 => ?_⟩
  refine W.call (w_gOwn p l50 lt) fun own h => ?_
  obtain rfl := h.symm
  by_cases hck : chkG p = 0
  · obtain ⟨q1, q2, q3, q4, q5, t, q6, q7, q8⟩ := chkG_tree hob hck
    have hlen : p.Body.length ≤ 1000 := by omega
    have hb0 : p.Body = [] ++ (t.fl ++ []) := by rw [q8]; simp
    have h1 : W (fun N => s_scope_Walk N p choices) (· = (t.wk choices 0 s00).out) := by
      simp only [s_scope_Walk]
      refine W.call (w_shCheck p) ?_
      rintro _ rfl
      simp only [hck, show ((0 : Int) != 0) = false from rfl, cond_false]
      refine W.call (f := fun N => s_scope_walker_tree_v577 N 0 p.Body choices 0 false) (p5 (body := p.Body) (cs := choices) hlen t 0 q6 [] [] s00 s00_ok rfl hb0) ?_
      rintro r (⟨rfl, hz⟩ | rfl)
      · simp only [Sum.elim_inl, W.ret]; exact hz.symm
      · simp only [Sum.elim_inr, W.ret]; rfl
    have h2 : W (fun N => s_ref15_Walk N p choices) (· = (t.wk choices 0 s00).out) := by
      simp only [s_ref15_Walk]
      refine W.call (w_rCheck13 p (by omega) hob) ?_
      rintro _ rfl
      simp only [hck, show ((0 : Int) != 0) = false from rfl, cond_false]
      refine W.call (f := fun N => s_ref15_walk N p.Body 0 ⟨choices, 0, [], false⟩) (rw' (body := p.Body) (cs := choices) hlen t 0 q6 [] [] s00 s00_ok hb0) ?_
      rintro _ rfl
      simp only [W.ret]; rfl
    refine W.call h1 ?_
    rintro _ rfl
    refine W.call h2 ?_
    rintro _ rfl
    refine W.call (w_sameInts _ ?_) ?_
    · have := (wk_ok (cs := choices) t 0 s00 s00_ok).2.2.1
      omega
    · rintro _ rfl
      simp only [cond_true]
      exact w_aw15 _
  · have h1 : W (fun N => s_scope_Walk N p choices) (· = []) := by
      simp only [s_scope_Walk]
      refine W.call (w_shCheck p) ?_
      rintro _ rfl
      simp only [show (chkG p != 0) = true by simpa using hck, cond_true, W.ret]
    have h2 : W (fun N => s_ref15_Walk N p choices) (· = []) := by
      simp only [s_ref15_Walk]
      refine W.call (w_rCheck13 p (by omega) hob) ?_
      rintro _ rfl
      simp only [show (chkG p != 0) = true by simpa using hck, cond_true, W.ret]
    refine W.call h1 ?_
    rintro _ rfl
    refine W.call h2 ?_
    rintro _ rfl
    refine W.call (w_sameInts [] (by simp)) ?_
    rintro _ rfl
    simp only [cond_true]
    exact w_aw15 _
end
end Go.Proofs.YtbioikdfpfafaaaGreatDoor.S
