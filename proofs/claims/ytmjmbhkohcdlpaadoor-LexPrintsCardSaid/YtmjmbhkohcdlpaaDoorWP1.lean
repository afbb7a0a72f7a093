/- What the law is handed, told as what its plain text takes. No premise beyond what each theorem says. -/
import Derived.Test.YtmjmbhkohcdlpaaDoorWG1
import Derived.Test.YtmjmbhkohcdlpaaDoorWA3
import Derived.Test.YtmjmbhkohcdlpaaDoorWA4
set_option linter.all false
set_option linter.unusedSimpArgs false
set_option linter.unusedVariables false
namespace Go.Proofs.YtmjmbhkohcdlpaaDoor.W
open Go
open Go.Proofs.Tryd
set_option maxRecDepth 1000000
set_option linter.unusedSimpArgs false
set_option linter.unusedVariables false
def ok_value_Value (x : value_Value) : Prop := (inK .u8) x.Kind ∧ (inK .i64) x.N ∧ (inK .u64) x.Bits ∧ okS x.Text
def ok_lex_Token (x : lex_Token) : Prop := (inK .u8) x.Kind ∧ (inK .i64) x.At ∧ okS x.Text ∧ ok_value_Value x.Val
def ok_anon_42 (x : anon_42) : Prop := (okL ok_lex_Token) x.i0 ∧ (okL ok_lex_Token) x.i1
theorem d_law10_LexPrints_t5 {H : Type} (d : DataW H) (cs : List AV) (h : DAv prog 5 d cs) : ∃ x : Int, cs = [.v (.int .u8 x)] ∧ (inK .u8) x := by
  obtain ⟨x, h, h1, h2⟩ := dv_int (k := .u8) (by kernel_rfl) h
  exact ⟨x, h, h1, h2⟩
theorem d_law10_LexPrints_t3 {H : Type} (d : DataW H) (cs : List AV) (h : DAv prog 3 d cs) : ∃ x : Int, cs = [.v (.int .i64 x)] ∧ (inK .i64) x := by
  obtain ⟨x, h, h1, h2⟩ := dv_int (k := .i64) (by kernel_rfl) h
  exact ⟨x, h, h1, h2⟩
theorem d_law10_LexPrints_t9 {H : Type} (d : DataW H) (cs : List AV) (h : DAv prog 9 d cs) : ∃ x : List UInt8, cs = [.v (.string (bs x))] ∧ okS x := by
  obtain ⟨x, h, h1⟩ := dv_string (by kernel_rfl) h
  exact ⟨x, h, h1⟩
theorem d_law10_LexPrints_t22 {H : Type} (d : DataW H) (cs : List AV) (h : DAv prog 22 d cs) : ∃ x : Int, cs = [.v (.int .u64 x)] ∧ (inK .u64) x := by
  obtain ⟨x, h, h1, h2⟩ := dv_int (k := .u64) (by kernel_rfl) h
  exact ⟨x, h, h1, h2⟩
theorem d_law10_LexPrints_t24 {H : Type} (d : DataW H) (cs : List AV) (h : DAv prog 24 d cs) : ∃ x : value_Value, cs = [.v (.int .u8 x.Kind), .v (.int .i64 x.N), .v (.int .u64 x.Bits), .v (.string (bs x.Text))] ∧ ok_value_Value x := by
  obtain ⟨_, h⟩ := dv_struct (ts := [5, 3, 22, 9]) (by kernel_rfl) h
  obtain ⟨_, _, _, _, rfl, h0, h⟩ := dvs_cons h
  obtain ⟨_, _, _, _, rfl, h1, h⟩ := dvs_cons h
  obtain ⟨_, _, _, _, rfl, h2, h⟩ := dvs_cons h
  obtain ⟨_, _, _, _, rfl, h3, h⟩ := dvs_cons h
  obtain rfl := dvs_nil h
  obtain ⟨x0, rfl, k0⟩ := d_law10_LexPrints_t5 _ _ h0
  obtain ⟨x1, rfl, k1⟩ := d_law10_LexPrints_t3 _ _ h1
  obtain ⟨x2, rfl, k2⟩ := d_law10_LexPrints_t22 _ _ h2
  obtain ⟨x3, rfl, k3⟩ := d_law10_LexPrints_t9 _ _ h3
  exact ⟨⟨x0, x1, x2, x3⟩, rfl, ⟨k0, k1, k2, k3⟩⟩
theorem d_law10_LexPrints_t47 {H : Type} (d : DataW H) (cs : List AV) (h : DAv prog 47 d cs) : ∃ x : lex_Token, cs = [.v (.int .u8 x.Kind), .v (.int .i64 x.At), .v (.string (bs x.Text)), .v (.int .u8 x.Val.Kind), .v (.int .i64 x.Val.N), .v (.int .u64 x.Val.Bits), .v (.string (bs x.Val.Text))] ∧ ok_lex_Token x := by
  obtain ⟨_, h⟩ := dv_struct (ts := [5, 3, 9, 24]) (by kernel_rfl) h
  obtain ⟨_, _, _, _, rfl, h0, h⟩ := dvs_cons h
  obtain ⟨_, _, _, _, rfl, h1, h⟩ := dvs_cons h
  obtain ⟨_, _, _, _, rfl, h2, h⟩ := dvs_cons h
  obtain ⟨_, _, _, _, rfl, h3, h⟩ := dvs_cons h
  obtain rfl := dvs_nil h
  obtain ⟨x0, rfl, k0⟩ := d_law10_LexPrints_t5 _ _ h0
  obtain ⟨x1, rfl, k1⟩ := d_law10_LexPrints_t3 _ _ h1
  obtain ⟨x2, rfl, k2⟩ := d_law10_LexPrints_t9 _ _ h2
  obtain ⟨x3, rfl, k3⟩ := d_law10_LexPrints_t24 _ _ h3
  exact ⟨⟨x0, x1, x2, x3⟩, rfl, ⟨k0, k1, k2, k3⟩⟩
theorem d_law10_LexPrints_t41 {H : Type} (d : DataW H) (cs : List AV) (h : DAv prog 41 d cs) : ∃ x : List lex_Token, cs = [.sl 7 (List.map eA1 x)] ∧ (okL ok_lex_Token) x := by
  obtain ⟨x, h, h1, h2⟩ := dv_slice (e := 47) (k := 7) eA1 ok_lex_Token (by kernel_rfl) (by kernel_rfl) (fun d cs h => by obtain ⟨x, h1, h2⟩ := d_law10_LexPrints_t47 d cs h; subst h1; exact ⟨x, mkE_agg (by kernel_rfl), h2⟩) h
  exact ⟨x, h, h1, h2⟩
theorem d_law10_LexPrints_t42 {H : Type} (d : DataW H) (cs : List AV) (h : DAv prog 42 d cs) : ∃ x : anon_42, cs = [.sl 7 (List.map eA1 x.i0), .sl 7 (List.map eA1 x.i1)] ∧ ok_anon_42 x := by
  obtain ⟨_, h⟩ := dv_array (n := 2) (e := 41) (by kernel_rfl) h
  obtain ⟨_, _, _, _, rfl, h0, h⟩ := dvs_cons h
  obtain ⟨_, _, _, _, rfl, h1, h⟩ := dvs_cons h
  obtain rfl := dvs_nil h
  obtain ⟨x0, rfl, k0⟩ := d_law10_LexPrints_t41 _ _ h0
  obtain ⟨x1, rfl, k1⟩ := d_law10_LexPrints_t41 _ _ h1
  exact ⟨⟨x0, x1⟩, rfl, ⟨k0, k1⟩⟩
theorem d_law10_LexPrints {H : Type} (ds : List (DataW H)) (xs : List AV) (h : DAvV prog [42, 24] ds xs) :
    ∃ (l : anon_42) (v : value_Value), xs = [.agg [.sl 7 (List.map eA1 l.i0), .sl 7 (List.map eA1 l.i1)], .agg [.v (.int .u8 v.Kind), .v (.int .i64 v.N), .v (.int .u64 v.Bits), .v (.string (bs v.Text))]] ∧ ok_anon_42 l ∧ ok_value_Value v := by
  obtain ⟨_, _, _, _, rfl, rfl, h0, h⟩ := dvv_cons h
  obtain ⟨_, _, _, _, rfl, rfl, h1, h⟩ := dvv_cons h
  obtain ⟨rfl, rfl⟩ := dvv_nil h
  obtain ⟨x0, rfl, k0⟩ := d_law10_LexPrints_t42 _ _ h0
  obtain ⟨x1, rfl, k1⟩ := d_law10_LexPrints_t24 _ _ h1
  exact ⟨x0, x1, by rw [mkE_agg (by kernel_rfl), mkE_agg (by kernel_rfl)], k0, k1⟩
end Go.Proofs.YtmjmbhkohcdlpaaDoor.W
namespace Go.Proofs.YtmjmbhkohcdlpaaDoor.W
open Go
set_option linter.unusedSimpArgs false
set_option linter.unusedVariables false

theorem wall {α : Type} {f : Nat → Option α} {a : α} (h : ∀ N, f N = some a) : W f (· = a) := ⟨a, ⟨0, fun N _ => h N⟩, rfl⟩
theorem drop_len {α β : Type} {l : List α} {q : List β} (hl : l.length = q.length) {pre rest : List α} {e : α} (h : l = pre ++ e :: rest) : ∃ f rest2, q.drop pre.length = f :: rest2 ∧ q.drop (pre.length + 1) = rest2 ∧ ix q (pre.length : Int) = some f := by
  have hi : pre.length < q.length := by rw [← hl, h]; simp
  exact ⟨q[pre.length], _, List.drop_eq_getElem_cons hi, rfl, by rw [ix_nat']; exact List.getElem?_eq_getElem hi⟩
theorem wid {ι : Type} [Lim ι] {α : Type} {f : ι → Option α} {Q : α → Prop} : W (fun i => (f i).bind fun a => some a) Q ↔ W f Q := by
  have : (fun i => (f i).bind fun a => some a) = f := by funext i; cases f i <;> rfl
  rw [this]
theorem ix_app {α : Type} {l r : List α} {j : Int} {e : α} (h : ix l j = some e) (h0 : 0 ≤ j) : ix (l ++ r) j = some e := by
  obtain ⟨n, rfl⟩ := Int.eq_ofNat_of_zero_le h0
  rw [ix_nat'] at h ⊢
  obtain ⟨hn, _⟩ := List.getElem?_eq_some_iff.1 h
  rw [List.getElem?_append_left hn, h]
end Go.Proofs.YtmjmbhkohcdlpaaDoor.W
namespace Go.Proofs.YtmjmbhkohcdlpaaDoor.W
open Go
set_option linter.unusedSimpArgs false
set_option linter.unusedVariables false

theorem ncmp (a : Int) : compare a a = .eq := by simp [compare, compareOfLessAndEq]
theorem bcmp (a : Bool) : compare a.toNat a.toNat = .eq := by simp [compare, compareOfLessAndEq]
theorem nan_iff (n : Nat) : fcmpB .neq .f64 n n = decide (9218868437227405312 < n % 9223372036854775808) := by
  have h : FloatKind.f64.format = Ieee.double := rfl
  simp only [fcmpB, h, Ieee.Format.order, Ieee.Format.read]
  have e1 : Ieee.double.signWeight = 9223372036854775808 := by decide
  have e2 : Ieee.double.infRung = 9218868437227405312 := by decide
  have e3 : Ieee.double.binade = 4503599627370496 := by decide
  rw [e1, e2, e3]
  by_cases h1 : n % 9223372036854775808 < 4503599627370496
  · rw [if_pos h1, decide_eq_false (by omega)]; simp only [Ieee.Datum.order, ncmp]; rfl
  · by_cases h2 : n % 9223372036854775808 < 9218868437227405312
    · rw [if_neg h1, if_pos h2, decide_eq_false (by omega)]; simp only [Ieee.Datum.order, ncmp]; rfl
    · by_cases h3 : n % 9223372036854775808 = 9218868437227405312
      · rw [if_neg h1, if_neg h2, if_pos h3, decide_eq_false (by omega)]; simp only [Ieee.Datum.order, bcmp]; rfl
      · rw [if_neg h1, if_neg h2, if_neg h3, decide_eq_true (by omega)]; rfl

def cln (u : Int) : Int := if 9218868437227405312 < u.toNat % 9223372036854775808 then 9221120237041090560 else u
theorem e_real_Clean (u : Int) (N : Nat) : s_real_Clean N u = some (cln u) := by
  simp only [s_real_Clean, s_real_of, Option.bind_some, nan_iff, cln, decide_eq_true_eq, Bool.cond_eq_ite]
  split <;> rfl
def vchk (v : value_Value) : Int :=
  if v.Kind = 1 then (if v.N < -4611686018427387904 ∨ 4611686018427387904 < v.N then 8 else if v.Bits = 0 ∧ v.Text = [] then 0 else 2)
  else if v.Kind = 2 then (if v.N < 0 ∨ 1 < v.N then 8 else if v.Bits = 0 ∧ v.Text = [] then 0 else 2)
  else if v.Kind = 3 then (if cln v.Bits ≠ v.Bits then 4 else if v.N = 0 ∧ v.Text = [] then 0 else 2)
  else if v.Kind = 4 then (if 24 < v.Text.length then 5 else if v.N = 0 ∧ v.Bits = 0 then 0 else 2)
  else 11
theorem e_value_Check (v : value_Value) (N : Nat) : s_value_Check N v = some (vchk v) := by
  have hc := e_real_Clean v.Bits N
  simp only [s_value_Check, s_value_core, vchk, Bool.cond_eq_ite]
  by_cases k1 : v.Kind = 1
  · simp [k1, s_value_number_whole, ltB_iff]; repeat' split
    all_goals first | rfl | (exfalso; omega) | simp_all [eq_comm]
  · by_cases k2 : v.Kind = 2
    · simp [k2, s_value_flag_whole]; repeat' split
      all_goals first | rfl | (exfalso; omega) | simp_all [eq_comm]
    · by_cases k3 : v.Kind = 3
      · simp [k3, s_value_double_whole, hc]; repeat' split
        all_goals first | rfl | (exfalso; omega) | simp_all [eq_comm]
      · by_cases k4 : v.Kind = 4
        · simp [k4, s_value_words_whole, ltB_iff]; repeat' split
          all_goals first | rfl | (exfalso; omega) | simp_all [eq_comm]
        · simp [k1, k2, k3, k4]
end Go.Proofs.YtmjmbhkohcdlpaaDoor.W
namespace Go.Proofs.YtmjmbhkohcdlpaaDoor.W
open Go
set_option linter.unusedSimpArgs false
set_option linter.unusedVariables false

theorem e_ref03_Clean (u : Int) (h0 : 0 ≤ u) (h1 : u ≤ 18446744073709551615) (N : Nat) : s_ref03_Clean N u = some (cln u) := by
  obtain ⟨n, rfl⟩ : ∃ n : Nat, u = (n : Int) := ⟨u.toNat, by omega⟩
  have d1 : Int.tdiv (n : Int) 4503599627370496 = ((n / 4503599627370496 : Nat) : Int) := rfl
  have w1 : IntKind.u64.wrap ((n / 4503599627370496 : Nat) : Int) = ((n / 4503599627370496 : Nat) : Int) := by
    rw [IntKind.wrap_u64]; omega
  have d2 : Int.tmod ((n / 4503599627370496 : Nat) : Int) 2048 = ((n / 4503599627370496 % 2048 : Nat) : Int) := rfl
  have w2 : IntKind.i64.wrap ((n / 4503599627370496 % 2048 : Nat) : Int) = ((n / 4503599627370496 % 2048 : Nat) : Int) := by
    rw [IntKind.wrap_i64]; omega
  have d3 : Int.tmod (n : Int) 4503599627370496 = ((n % 4503599627370496 : Nat) : Int) := rfl
  have hexp : s_ref03_Exp N n = some ((n / 4503599627370496 % 2048 : Nat) : Int) := by simp only [s_ref03_Exp, d1, w1, d2, w2]
  have hfrac : s_ref03_Frac N n = some ((n % 4503599627370496 : Nat) : Int) := by simp only [s_ref03_Frac, d3]
  have hk : ∃ k, s_ref03_Kind N n = some k ∧ (k == 5) = decide (9218868437227405312 < n % 9223372036854775808) := by
    simp only [s_ref03_Kind, hexp, hfrac, Option.bind_some, Bool.cond_eq_ite]
    by_cases c1 : n / 4503599627370496 % 2048 = 2047
    · have c1' : (((n / 4503599627370496 % 2048 : Nat) : Int) == 2047) = true := by simp; omega
      by_cases c2 : n % 4503599627370496 = 0
      · have c2' : (((n % 4503599627370496 : Nat) : Int) != 0) = false := by simp; omega
        simp only [c1', c2', if_true]
        exact ⟨4, rfl, by symm; exact decide_eq_false (by omega)⟩
      · have c2' : (((n % 4503599627370496 : Nat) : Int) != 0) = true := by simp; omega
        simp only [c1', c2', if_true]
        exact ⟨5, rfl, by symm; exact decide_eq_true (by omega)⟩
    · have c1' : (((n / 4503599627370496 % 2048 : Nat) : Int) == 2047) = false := by simp; omega
      simp only [c1', Bool.false_eq_true, if_false]
      have hd : decide (9218868437227405312 < n % 9223372036854775808) = false := decide_eq_false (by omega)
      rw [hd]
      by_cases c3 : (((n / 4503599627370496 % 2048 : Nat) : Int) != 0) = true
      · simp only [c3, if_true]; exact ⟨3, rfl, rfl⟩
      · by_cases c4 : (((n % 4503599627370496 : Nat) : Int) != 0) = true
        · simp only [eq_false_of_ne_true c3, c4, if_true, Bool.false_eq_true, if_false]; exact ⟨2, rfl, rfl⟩
        · simp only [eq_false_of_ne_true c3, eq_false_of_ne_true c4, Bool.false_eq_true, if_false]; exact ⟨1, rfl, rfl⟩
  obtain ⟨k, hk1, hk2⟩ := hk
  simp only [s_ref03_Clean, hk1, hk2, Option.bind_some, cln, decide_eq_true_eq, Int.toNat_natCast, Bool.cond_eq_ite]
  split <;> rfl

end Go.Proofs.YtmjmbhkohcdlpaaDoor.W
namespace Go.Proofs.YtmjmbhkohcdlpaaDoor.W
open Go
set_option linter.unusedSimpArgs false
set_option linter.unusedVariables false

theorem e_ref04_Check (v : value_Value) (h0 : 0 ≤ v.Bits) (h1 : v.Bits ≤ 18446744073709551615) (N : Nat) : s_ref04_Check N v = some (vchk v) := by
  have hc := e_ref03_Clean v.Bits h0 h1 N
  simp only [s_ref04_Check, hc, Option.bind_some, vchk, Bool.cond_eq_ite, ltB_iff]
  by_cases k1 : v.Kind = 1
  · simp [k1]; repeat' split
    all_goals first | rfl | (exfalso; omega) | simp_all
  · by_cases k2 : v.Kind = 2
    · simp [k2]; repeat' split
      all_goals first | rfl | (exfalso; omega) | simp_all
    · by_cases k3 : v.Kind = 3
      · simp [k3]; repeat' split
        all_goals first | rfl | (exfalso; omega) | simp_all
      · by_cases k4 : v.Kind = 4
        · simp [k4]; repeat' split
          all_goals first | rfl | (exfalso; omega) | simp_all
        · simp [k1, k2, k3, k4]; repeat' split
          all_goals first | rfl | (exfalso; omega) | (intros; omega) | simp_all
end Go.Proofs.YtmjmbhkohcdlpaaDoor.W
namespace Go.Proofs.YtmjmbhkohcdlpaaDoor.W
open Go
set_option linter.unusedSimpArgs false
set_option linter.unusedVariables false

def zv : value_Value := ⟨0, 0, 0, []⟩
def isS (c : UInt8) : Bool := leB 97 (c.toNat : Int) && leB (c.toNat : Int) 122
def isD (c : UInt8) : Bool := leB 48 (c.toNat : Int) && leB (c.toNat : Int) 57
def isT (c : UInt8) : Bool := isS c || isD c || ((c.toNat : Int) == 95)
def isG (c : UInt8) : Bool := leB 0 (Lib.indexByte [40, 41, 91, 93, 123, 125, 59, 124, 33, 58, 44, 46, 43, 42, 63, 45, 61, 60, 62] c)
def isC (c : UInt8) : Bool := leB 0 (Lib.indexByte [33, 60, 62] c)
def known (c : UInt8) : Bool := isS c || isD c || ((c.toNat : Int) == 35) || ((c.toNat : Int) == 39) || isG c
def blank (c : UInt8) : Bool := ((c.toNat : Int) == 32) || ((c.toNat : Int) == 9) || ((c.toNat : Int) == 10)
/-- What a digit to the base 16 is worth. -/
def hx (c : UInt8) : Option Nat := if isD c then some (c.toNat - 48) else if leB 97 (c.toNat : Int) && leB (c.toNat : Int) 102 then some (c.toNat - 87) else none

/-- A token (kind, text, value, length), or what is wrong, and how far from its begin. -/
abbrev R1 := (Int × List UInt8 × value_Value × Nat) ⊕ (Int × Nat)
def resl : List (List UInt8) := [[119, 105, 116, 104, 105, 110], [98, 121], [97, 110, 100], [111, 114], [110, 111, 116], [97, 110, 121], [110, 101, 120, 116], [115, 116, 114, 105, 99, 116], [116, 114, 117, 101], [102, 97, 108, 115, 101]]
def resv (s : List UInt8) : Bool := resl.any (s == ·)
def wordR (w : List UInt8) : R1 :=
  if w = [116, 114, 117, 101] then .inl (3, [], ⟨2, 1, 0, []⟩, w.length)
  else if w = [102, 97, 108, 115, 101] then .inl (3, [], ⟨2, 0, 0, []⟩, w.length)
  else if resv w then .inl (2, w, zv, w.length)
  else if 12 < w.length then .inr (5, 0)
  else .inl (1, w, zv, w.length)
def numv : Nat → List UInt8 → Option Nat
  | v, [] => some v
  | v, c :: t => if (4611686018427387904 - (c.toNat - 48)) / 10 < v then none else numv (10 * v + (c.toNat - 48)) t
def numR (w : List UInt8) : R1 :=
  if 1 < w.length ∧ w.head? = some 48 then .inr (4, 0)
  else match numv 0 w with
    | none => .inr (8, 0)
    | some v => .inl (3, [], ⟨1, (v : Int), 0, []⟩, w.length)
def hexv : Nat → List UInt8 → Option Nat
  | u, [] => some u
  | u, c :: t => match hx c with
    | none => none
    | some d => hexv (16 * u + d) t
def dblR (t : List UInt8) : R1 :=
  if t.length < 16 then .inr (4, 0) else match hexv 0 (t.take 16) with
    | none => .inr (4, 0)
    | some u => if cln (u : Int) = (u : Int) then .inl (3, [], ⟨3, 0, (u : Int), []⟩, 17) else .inr (4, 0)
def quoR : List UInt8 → Nat → List UInt8 → R1
  | [], _, _ => .inr (3, 0)
  | c :: t, off, b =>
    if c.toNat < 32 ∨ 126 < c.toNat then .inr (10, off)
    else if c = 92 then match t with
      | x :: y :: t => match hx x, hx y with
        | some h, some l => quoR t (off + 3) (b ++ [UInt8.ofNat (16 * h + l)])
        | _, _ => .inr (4, off)
      | _ => .inr (4, off)
    else if c = 39 then match t with
      | x :: t => if x = 39 then quoR t (off + 2) (b ++ [39]) else if 24 < b.length then .inr (5, 0) else .inl (3, [], ⟨4, 0, 0, b⟩, off + 1)
      | [] => if 24 < b.length then .inr (5, 0) else .inl (3, [], ⟨4, 0, 0, b⟩, off + 1)
    else quoR t (off + 1) (b ++ [c])
theorem quoR_nil (off : Nat) (b : List UInt8) : quoR [] off b = .inr (3, 0) := by rw [quoR.eq_def]
theorem quoR_cons (c : UInt8) (t : List UInt8) (off : Nat) (b : List UInt8) : quoR (c :: t) off b =
    if c.toNat < 32 ∨ 126 < c.toNat then .inr (10, off)
    else if c = 92 then match t with
      | x :: y :: t => match hx x, hx y with
        | some h, some l => quoR t (off + 3) (b ++ [UInt8.ofNat (16 * h + l)])
        | _, _ => .inr (4, off)
      | _ => .inr (4, off)
    else if c = 39 then match t with
      | x :: t => if x = 39 then quoR t (off + 2) (b ++ [39]) else if 24 < b.length then .inr (5, 0) else .inl (3, [], ⟨4, 0, 0, b⟩, off + 1)
      | [] => if 24 < b.length then .inr (5, 0) else .inl (3, [], ⟨4, 0, 0, b⟩, off + 1)
    else quoR t (off + 1) (b ++ [c]) := by rw [quoR.eq_def]
def signR (c : UInt8) (t : List UInt8) : R1 :=
  if isC c ∧ t.head? = some 61 then .inl (4, [c, 61], zv, 2) else .inl (4, [c], zv, 1)
/-- The token that a text begins with. -/
def oneR : List UInt8 → R1
  | [] => .inr (10, 0)
  | c :: t => if isS c then wordR ((c :: t).takeWhile isT)
    else if isD c then numR ((c :: t).takeWhile isD)
    else if (c.toNat : Int) == 35 then dblR t
    else if (c.toNat : Int) == 39 then quoR t 1 []
    else if isG c then signR c t
    else .inr (10, 0)
def scanR (r : List UInt8) (p : Nat) (out : List lex_Token) : List lex_Token ⊕ (Int × Int) :=
  match r with
  | [] => .inl out
  | c :: t => if blank c then scanR t (p + 1) out
    else if known c && decide (out.length = 200) then .inr (7, (p : Int))
    else match oneR (c :: t) with
      | .inr (e, o) => .inr (e, ((p + o : Nat) : Int))
      | .inl (k, x, v, m) => scanR (t.drop (m - 1)) (p + m) (out ++ [⟨k, (p : Int), x, v⟩])
termination_by r.length
def scan (s : List UInt8) : List lex_Token ⊕ (Int × Int) := if 600 < s.length then .inr (5, 0) else scanR s 0 []

/-! ### Small facts -/
theorem small_c (c : UInt8) (N : Nat) : s_lex_small N (c.toNat : Int) = some (isS c) := by
  simp only [s_lex_small, isS]; cases leB 97 (c.toNat : Int) <;> rfl
theorem digit_c (c : UInt8) (N : Nat) : s_lex_digit N (c.toNat : Int) = some (isD c) := by
  simp only [s_lex_digit, isD]; cases leB 48 (c.toNat : Int) <;> rfl
theorem tail_c (c : UInt8) (N : Nat) : s_lex_tail N (c.toNat : Int) = some (isT c) := by
  simp only [s_lex_tail, small_c, digit_c, Option.bind_some, isT]
  cases isS c <;> cases isD c <;> rfl
theorem byte_all {P : UInt8 → Prop} (h : ∀ n : Fin 256, P (UInt8.ofNat n.val)) (c : UInt8) : P c := by
  have := h ⟨c.toNat, c.toNat_lt⟩
  simpa using this
theorem ofN (c : UInt8) : UInt8.ofNat (Int.toNat (c.toNat : Int)) = c := by simp
theorem hx_ix : ∀ c : UInt8, Lib.indexByte [48, 49, 50, 51, 52, 53, 54, 55, 56, 57, 97, 98, 99, 100, 101, 102] c = match hx c with
    | none => -1
    | some d => (d : Int) := byte_all (by decide +kernel)
theorem hx_lt {c : UInt8} {d : Nat} (h : hx c = some d) : d < 16 := by
  unfold hx at h
  split at h
  · rename_i hd
    simp only [isD, Bool.and_eq_true, leB_iff] at hd
    cases h; omega
  · split at h
    · rename_i hd
      simp only [Bool.and_eq_true, leB_iff] at hd
      cases h; omega
    · cases h
theorem base_c (c : UInt8) (N : Nat) : s_lex_base16 N (c.toNat : Int) = some (match hx c with | none => -1 | some d => (d : Int)) := by
  simp only [s_lex_base16, s_strings_IndexByte, s_stringslite_IndexByte, Option.bind_some, ofN, hx_ix]
theorem index_c (l : List UInt8) (c : UInt8) (N : Nat) : s_strings_IndexByte N l (c.toNat : Int) = some (Lib.indexByte l c) := by
  simp only [s_strings_IndexByte, s_stringslite_IndexByte, Option.bind_some, ofN]
theorem reserved_c (s : List UInt8) (N : Nat) : s_schema_Reserved N s = some (resv s) := by
  have e2 : ∀ (b r : Bool), (bif b then some true else some r) = some (b || r) := by intro b r; cases b <;> rfl
  have e3 : ∀ (b r r' : Bool), (bif b then some (b || r') else some r) = some (b || r) := by intro b r r'; cases b <;> rfl
  have e4 : ∀ (b r : Bool), (bif b then some b else some r) = some (b || r) := by intro b r; cases b <;> rfl
  unfold s_schema_Reserved
  simp only [resv, resl, List.any_cons, List.any_nil, e2, e3, e4, Bool.or_false]
end Go.Proofs.YtmjmbhkohcdlpaaDoor.W
namespace Go.Proofs.YtmjmbhkohcdlpaaDoor.W
open Go
set_option linter.unusedSimpArgs false
set_option linter.unusedVariables false

theorem tw_le {α : Type} (p : α → Bool) : ∀ r : List α, (r.takeWhile p).length ≤ r.length
  | [] => Nat.le_refl _
  | x :: r => by
    have := tw_le p r
    simp only [List.takeWhile_cons]
    split <;> simp; omega
theorem tw_at {α : Type} {p : α → Bool} : ∀ {r : List α} {k : Nat} {e : α}, k ≤ (r.takeWhile p).length → r[k]? = some e → p e = decide (k < (r.takeWhile p).length)
  | [], _, _, _, h => by simp at h
  | x :: r, 0, e, _, h => by
    simp only [List.getElem?_cons_zero, Option.some.injEq] at h
    subst h
    simp only [List.takeWhile_cons]
    cases p x <;> simp
  | x :: r, k + 1, e, hk, h => by
    simp only [List.getElem?_cons_succ] at h
    simp only [List.takeWhile_cons] at hk ⊢
    cases hx : p x with
    | false => simp [hx] at hk
    | true =>
      simp only [hx, if_true, List.length_cons, Nat.add_le_add_iff_right, Nat.add_lt_add_iff_right] at hk ⊢
      exact tw_at hk h
theorem tw_take {α : Type} (p : α → Bool) : ∀ r : List α, r.take (r.takeWhile p).length = r.takeWhile p
  | [] => rfl
  | x :: r => by
    simp only [List.takeWhile_cons]
    split
    · simp [tw_take p r]
    · rfl
theorem ix_drop {y : List UInt8} {a k : Nat} {e : UInt8} (h : (y.drop a)[k]? = some e) : ix y ((a : Int) + (k : Int)) = some e := by
  rw [show (a : Int) + (k : Int) = ((a + k : Nat) : Int) by omega, ix_nat', ← h, List.getElem?_drop]
theorem drop_get {y : List UInt8} {a k : Nat} (h : a + k < y.length) : ∃ e, (y.drop a)[k]? = some e := by
  rw [List.getElem?_drop]; exact ⟨y[a + k], List.getElem?_eq_getElem h⟩

theorem w_len_T (y : List UInt8) (a : Nat) (xs : List lex_Token) (ha : a ≤ y.length) (hy : y.length ≤ 700) :
    W (fun N => s_lex_scanner_length_v869 N y a xs) (· = ((((y.drop a).takeWhile isT).length : Int), y, (a : Int), xs)) := by
  have hl := tw_le isT (y.drop a)
  rw [List.length_drop] at hl
  simp only [s_lex_scanner_length_v869]
  refine W.lp1 (fun v : Int => ∃ k : Nat, v = k ∧ k ≤ ((y.drop a).takeWhile isT).length) (fun v : Int => ((y.drop a).takeWhile isT).length - v.toNat) ⟨0, rfl, Nat.zero_le _⟩ ?_
  rintro F v ⟨k, rfl, hk⟩ hn
  simp only [s_lex_scanner_length_v869_1, W.gd, W.cond, i64b_eq, ltB_iff, ltB_not, W.ret]
  refine ⟨by omega, fun h => ⟨by omega, ?_⟩, fun h => by rw [show k = ((y.drop a).takeWhile isT).length by omega]⟩
  obtain ⟨e, he⟩ := drop_get (y := y) (a := a) (k := k) (by omega)
  have hp := tw_at hk he
  simp only [ix_drop he, Option.bind_some, tail_c, hp, W.cond, W.gd, decide_eq_true_eq, decide_eq_false_iff_not, W.ret, i64b_eq]
  refine ⟨fun h2 => ⟨by omega, hn _ ⟨k + 1, by omega, h2⟩ (by omega)⟩, fun h2 => by rw [show k = ((y.drop a).takeWhile isT).length by omega]⟩
theorem w_len_D (y : List UInt8) (a : Nat) (xs : List lex_Token) (ha : a ≤ y.length) (hy : y.length ≤ 700) :
    W (fun N => s_lex_scanner_length_v416 N y a xs) (· = ((((y.drop a).takeWhile isD).length : Int), y, (a : Int), xs)) := by
  have hl := tw_le isD (y.drop a)
  rw [List.length_drop] at hl
  simp only [s_lex_scanner_length_v416]
  refine W.lp1 (fun v : Int => ∃ k : Nat, v = k ∧ k ≤ ((y.drop a).takeWhile isD).length) (fun v : Int => ((y.drop a).takeWhile isD).length - v.toNat) ⟨0, rfl, Nat.zero_le _⟩ ?_
  rintro F v ⟨k, rfl, hk⟩ hn
  simp only [s_lex_scanner_length_v416_1, W.gd, W.cond, i64b_eq, ltB_iff, ltB_not, W.ret]
  refine ⟨by omega, fun h => ⟨by omega, ?_⟩, fun h => by rw [show k = ((y.drop a).takeWhile isD).length by omega]⟩
  obtain ⟨e, he⟩ := drop_get (y := y) (a := a) (k := k) (by omega)
  have hp := tw_at hk he
  simp only [ix_drop he, Option.bind_some, digit_c, hp, W.cond, W.gd, decide_eq_true_eq, decide_eq_false_iff_not, W.ret, i64b_eq]
  refine ⟨fun h2 => ⟨by omega, hn _ ⟨k + 1, by omega, h2⟩ (by omega)⟩, fun h2 => by rw [show k = ((y.drop a).takeWhile isD).length by omega]⟩

/-- What is told behind a token: text, place, tokens; or an error and its place. -/
abbrev St3 := List UInt8 × Int × List lex_Token
abbrev Ft := Int × Int × List UInt8 × Int × List lex_Token
def finA : St3 ⊕ Ft ⊕ St3 → St3 ⊕ (Int × Int)
  | .inl x => .inl x
  | .inr (.inl f) => .inr (f.1, f.2.1)
  | .inr (.inr x) => .inl x
def finW : St3 ⊕ St3 ⊕ Ft → St3 ⊕ (Int × Int)
  | .inl x => .inl x
  | .inr (.inl x) => .inl x
  | .inr (.inr f) => .inr (f.1, f.2.1)
def stepR (y : List UInt8) (a : Nat) (xs : List lex_Token) : R1 → St3 ⊕ (Int × Int)
  | .inl (k, x, v, m) => .inl (y, ((a + m : Nat) : Int), xs ++ [⟨k, (a : Int), x, v⟩])
  | .inr (e, o) => .inr (e, ((a + o : Nat) : Int))

theorem w_put (n : Nat) (k : Int) (x : List UInt8) (v : value_Value) (y : List UInt8) (a : Nat) (xs : List lex_Token) (h1 : a ≤ 700) (h2 : n ≤ 700) (h3 : xs.length ≤ 700) :
    W (fun N => s_lex_scanner_put_v420 N (n : Int) k x v y a xs) (· = (y, ((a + n : Nat) : Int), xs ++ [⟨k, (a : Int), x, v⟩])) := by
  simp only [s_lex_scanner_put_v420, W.gd, W.ret, i64b_eq]
  refine ⟨Nat.ble_eq_true_of_le (by omega), by omega, ?_⟩
  rw [show ((a + n : Nat) : Int) = (a : Int) + (n : Int) by omega]
theorem fail_c (e : Int) (he : (e == 0) = false) (y : List UInt8) (a : Int) (xs : List lex_Token) (N : Nat) : s_lex_scanner_fail_v359 N e y a xs = some (.inr (e, a, y, a, xs)) := by
  simp only [s_lex_scanner_fail_v359, s_fault_New, he, cond_false, Option.bind_some, Sum.elim_inr]
theorem w_word (y : List UInt8) (a : Nat) (xs : List lex_Token) (ha : a ≤ y.length) (hy : y.length ≤ 700) (hx : xs.length ≤ 700) :
    W (fun N => s_lex_scanner_word_v558 N y a xs) fun r => finW r = stepR y a xs (wordR ((y.drop a).takeWhile isT)) := by
  have hl := tw_le isT (y.drop a)
  rw [List.length_drop] at hl
  simp only [s_lex_scanner_word_v558]
  refine W.call (w_len_T y a xs ha hy) ?_
  rintro _ rfl
  have hw : List.drop (Int.toNat (a : Int)) (List.take (Int.toNat ((a : Int) + (((y.drop a).takeWhile isT).length : Nat))) y) = (y.drop a).takeWhile isT := by
    rw [show Int.toNat ((a : Int) + (((y.drop a).takeWhile isT).length : Nat)) = a + ((y.drop a).takeWhile isT).length by omega, Int.toNat_natCast, List.drop_take, Nat.add_sub_cancel_left]
    exact tw_take _ _
  simp only [W.gd, W.cond, W.ret, i64b_eq, leB_iff, hw]
  generalize (y.drop a).takeWhile isT = w at *
  have put : ∀ {ι : Type} [Lim ι] (N : ι → Nat) [Tends N] (k : Int) (x : List UInt8) (v : value_Value), wordR w = .inl (k, x, v, w.length) → W (fun i => (s_lex_scanner_put_v420 (N i) (w.length : Nat) k x v y a xs).bind fun p => some (.inl (p.1, p.2.1, p.2.2) : St3 ⊕ St3 ⊕ Ft)) fun r => finW r = stepR y a xs (wordR w) := fun N _ k x v he => by
    refine W.call (w_put _ _ _ _ _ _ _ (by omega) (by omega) hx) ?_
    rintro _ rfl
    rw [he]; exact W.ret.2 rfl
  refine ⟨by omega, by omega, by omega, by omega, fun h => ?_, fun h => ⟨fun h2 => ?_, fun h2 => ?_⟩⟩
  · have h := eq_of_beq h
    subst h
    exact put _ 3 [] ⟨2, 1, 0, []⟩ rfl
  · have h2 := eq_of_beq h2
    subst h2
    exact put _ 3 [] ⟨2, 0, 0, []⟩ rfl
  · have h : ¬ w = [116, 114, 117, 101] := by simpa using h
    have h2 : ¬ w = [102, 97, 108, 115, 101] := by simpa using h2
    simp only [reserved_c, Option.bind_some, W.cond]
    refine ⟨fun h3 => put _ 2 w zv (by rw [wordR, if_neg h, if_neg h2, if_pos h3]), fun h3 => ⟨fun h4 => ?_, fun h4 => put _ 1 w zv ?_⟩⟩
    · have h4 := ltB_iff.1 h4
      simp only [fail_c 5 rfl, Option.bind_some, Sum.elim_inr, W.ret]
      rw [wordR, if_neg h, if_neg h2, if_neg (by simp [h3]), if_pos (by omega)]; rfl
    · have h4 := ltB_not.1 h4
      rw [wordR, if_neg h, if_neg h2, if_neg (by simp [h3]), if_neg (by omega)]
end Go.Proofs.YtmjmbhkohcdlpaaDoor.W
namespace Go.Proofs.YtmjmbhkohcdlpaaDoor.W
open Go
set_option linter.unusedSimpArgs false
set_option linter.unusedVariables false

theorem tw_get {α : Type} {p : α → Bool} : ∀ {r : List α} {k : Nat}, k < (r.takeWhile p).length → (r.takeWhile p)[k]? = r[k]?
  | [], k, h => by simp at h
  | x :: r, k, h => by
    cases hx : p x with
    | false => simp [List.takeWhile_cons, hx] at h
    | true =>
      simp only [List.takeWhile_cons, hx, if_true, List.length_cons] at h ⊢
      cases k with
      | zero => rfl
      | succ k =>
        simp only [List.getElem?_cons_succ]
        exact tw_get (by omega)
theorem drop_eq {α : Type} {l : List α} {k : Nat} {e : α} (h : l[k]? = some e) : l.drop k = e :: l.drop (k + 1) := by
  obtain ⟨h1, h2⟩ := List.getElem?_eq_some_iff.1 h
  rw [List.drop_eq_getElem_cons h1, h2]
theorem isD_iff {c : UInt8} : isD c = true ↔ 48 ≤ c.toNat ∧ c.toNat ≤ 57 := by
  simp only [isD, Bool.and_eq_true, leB_iff]; omega
theorem w_number (y : List UInt8) (a : Nat) (xs : List lex_Token) (ha : a < y.length) (hy : y.length ≤ 700) (hx : xs.length ≤ 700) :
    W (fun N => s_lex_scanner_number_v558 N y a xs) fun r => finA r = stepR y a xs (numR ((y.drop a).takeWhile isD)) := by
  have hl := tw_le isD (y.drop a)
  rw [List.length_drop] at hl
  simp only [s_lex_scanner_number_v558]
  refine W.call (w_len_D y a xs (Nat.le_of_lt ha) hy) ?_
  rintro _ rfl
  have hD : ∀ k, k < ((y.drop a).takeWhile isD).length → ∃ e, ((y.drop a).takeWhile isD)[k]? = some e ∧ (y.drop a)[k]? = some e ∧ isD e = true := fun k hk => by
    obtain ⟨e, he⟩ := drop_get (y := y) (a := a) (k := k) (by omega)
    exact ⟨e, (tw_get hk).trans he, he, by rw [tw_at (Nat.le_of_lt hk) he]; exact decide_eq_true hk⟩
  generalize (y.drop a).takeWhile isD = w at *
  have loop : ¬ (1 < w.length ∧ w.head? = some 48) → ∀ {ι : Type} [Lim ι] (N : ι → Nat) [Tends N], W (fun i => lp2 (s_lex_scanner_number_v558_1 (N i) (w.length : Int) (w.length : Int) y (a : Int) xs) (N i) 0 0) fun r => finA r = stepR y a xs (numR w) := fun h0 {ι} _ N _ => by
    have key : ∀ v, numv 0 w = v → numR w = match v with
        | none => .inr (8, 0)
        | some v => .inl (3, [], ⟨1, (v : Int), 0, []⟩, w.length) := fun v hv => by rw [numR, if_neg h0, hv] <;> cases v <;> rfl
    refine W.lp2 (fun v x => ∃ V k : Nat, v = (V : Int) ∧ x = (k : Int) ∧ k ≤ w.length ∧ V ≤ 4611686018427387904 ∧ numv 0 w = numv V (w.drop k)) (fun _ x => w.length - x.toNat) ⟨0, 0, rfl, rfl, Nat.zero_le _, by omega, rfl⟩ ?_
    rintro F v x ⟨V, k, rfl, rfl, hk, hV, hv⟩ hn
    simp only [s_lex_scanner_number_v558_1, W.cond, W.gd, ltB_iff, ltB_not, i64b_eq]
    refine ⟨fun hlt => ⟨by omega, ?_⟩, fun hge => ?_⟩
    · obtain ⟨e, he1, he2, he3⟩ := hD k (by omega)
      have h48 := isD_iff.1 he3
      have e1 : IntKind.i64.wrap (IntKind.u8.wrap ((e.toNat : Int) - 48)) = ((e.toNat - 48 : Nat) : Int) := by rw [IntKind.wrap_u8, IntKind.wrap_i64]; omega
      have e2 : IntKind.i64.wrap (Int.tdiv (4611686018427387904 - ((e.toNat - 48 : Nat) : Int)) 10) = (((4611686018427387904 - (e.toNat - 48)) / 10 : Nat) : Int) := by
        rw [show (4611686018427387904 : Int) - ((e.toNat - 48 : Nat) : Int) = ((4611686018427387904 - (e.toNat - 48) : Nat) : Int) by omega]
        rw [show Int.tdiv ((4611686018427387904 - (e.toNat - 48) : Nat) : Int) 10 = (((4611686018427387904 - (e.toNat - 48)) / 10 : Nat) : Int) from rfl, IntKind.wrap_i64]
        omega
      rw [drop_eq he1, numv] at hv
      simp only [ix_drop he2, Option.bind_some, e1, e2, W.gd, W.cond, i64b_eq, ltB_iff, ltB_not]
      have hd : e.toNat - 48 ≤ 9 := by omega
      generalize e.toNat - 48 = d at *
      refine ⟨by omega, fun h => ?_, fun h => ?_⟩
      · rw [if_pos (by omega)] at hv
        simp only [fail_c 8 rfl, Option.bind_some, Sum.elim_inr, W.ret, key _ hv]
        rfl
      · rw [if_neg (by omega)] at hv
        refine ⟨by omega, by omega, by omega, hn _ _ ⟨10 * V + d, k + 1, by omega, by omega, by omega, by omega, hv⟩ (by omega)⟩
    · have hk : k = w.length := by omega
      rw [hk, List.drop_length, numv] at hv
      have e3 : max (-4611686018427387904) (min (V : Int) 4611686018427387904) = (V : Int) := by omega
      simp only [s_value_OfInt, Option.bind_some, e3]
      refine W.call (w_put w.length 3 [] _ y a xs (by omega) (by omega) hx) ?_
      rintro _ rfl
      rw [key _ hv]
      exact W.ret.2 rfl
  simp only [W.cond, ltB_iff, ltB_not]
  refine ⟨fun h => ?_, fun h => loop (by omega) _⟩
  obtain ⟨e, he1, he2, he3⟩ := hD 0 (by omega)
  have hh : w.head? = some e := by rw [← he1]; cases w <;> rfl
  have he2 := ix_drop he2
  rw [show (a : Int) + ((0 : Nat) : Int) = (a : Int) by omega] at he2
  simp only [he2, Option.bind_some, W.cond]
  refine ⟨fun h2 => ?_, fun h2 => loop ?_ _⟩
  · simp only [fail_c 4 rfl, Option.bind_some, Sum.elim_inr, W.ret]
    have h48 : e = 48 := by
      have := eq_of_beq h2
      exact UInt8.toNat_inj.1 (by simp only [UInt8.reduceToNat]; omega)
    rw [numR, if_pos ⟨by omega, by rw [hh, h48]⟩]; rfl
  · rintro ⟨_, h3⟩
    rw [hh] at h3
    cases h3
    exact absurd h2 (by decide)

theorem bwO4 {U d : Nat} (h : U * 16 < 18446744073709551616) (hd : d < 16) : bwO .u64 (IntKind.u64.wrap ((U : Int) * 2 ^ 4)) (IntKind.u64.wrap (d : Int)) = ((16 * U + d : Nat) : Int) := by
  have e1 : IntKind.u64.wrap ((U : Int) * 2 ^ 4) = ((2 ^ 4 * U : Nat) : Int) := by rw [IntKind.wrap_u64]; omega
  have e2 : IntKind.u64.wrap (d : Int) = (d : Int) := by rw [IntKind.wrap_u64]; omega
  rw [e1, e2]
  unfold bwO
  rw [BitVec.toNat_or, BitVec.toNat_ofInt, BitVec.toNat_ofInt]
  rw [show IntKind.u64.bits = 64 from rfl]
  rw [show (((2 ^ 4 * U : Nat) : Int) % ((2 ^ 64 : Nat) : Int)).toNat = 2 ^ 4 * U by omega, show ((d : Int) % ((2 ^ 64 : Nat) : Int)).toNat = d by omega]
  rw [← Nat.two_pow_add_eq_or_of_lt (by omega : d < 2 ^ 4), IntKind.wrap_u64]
  omega
theorem pow16 : ∀ k : Nat, k < 16 → 16 ^ k * 16 ≤ 18446744073709551616 := by
  intro k hk
  have : 16 ^ k ≤ 16 ^ 15 := Nat.pow_le_pow_right (by decide) (by omega)
  have h2 : (16 : Nat) ^ 15 = 1152921504606846976 := by decide
  omega
theorem w_double (y : List UInt8) (a : Nat) (xs : List lex_Token) (ha : a < y.length) (hy : y.length ≤ 700) (hx' : xs.length ≤ 700) :
    W (fun N => s_lex_scanner_double_v558 N y a xs) fun r => finA r = stepR y a xs (dblR (y.drop (a + 1))) := by
  simp only [s_lex_scanner_double_v558, W.gd, W.cond, i64b_eq, leB_iff, leB_not]
  refine ⟨by omega, fun h => ?_, fun h => ?_⟩
  · simp only [fail_c 4 rfl, Option.bind_some, Sum.elim_inr, W.ret]
    rw [dblR, if_pos (by rw [List.length_drop]; omega)]; rfl
  · have h0 : ¬ (y.drop (a + 1)).length < 16 := by rw [List.length_drop]; omega
    have key : ∀ v, hexv 0 ((y.drop (a + 1)).take 16) = v → dblR (y.drop (a + 1)) = match v with
        | none => .inr (4, 0)
        | some u => if cln (u : Int) = (u : Int) then .inl (3, [], ⟨3, 0, (u : Int), []⟩, 17) else .inr (4, 0) := fun v hv => by rw [dblR, if_neg h0, hv] <;> cases v <;> rfl
    refine W.lp2 (fun v x => ∃ U k : Nat, v = (U : Int) ∧ x = (k : Int) ∧ k ≤ 16 ∧ U < 16 ^ k ∧ hexv 0 ((y.drop (a + 1)).take 16) = hexv U (((y.drop (a + 1)).take 16).drop k)) (fun _ x => 16 - x.toNat) ⟨0, 0, rfl, rfl, Nat.zero_le _, by decide, rfl⟩ ?_
    rintro F v x ⟨U, k, rfl, rfl, hk, hU, hv⟩ hn
    simp only [s_lex_scanner_double_v558_1, W.cond, W.gd, ltB_iff, ltB_not, i64b_eq]
    refine ⟨fun hlt => ⟨by omega, by omega, ?_⟩, fun hge => ?_⟩
    · obtain ⟨e, he⟩ := drop_get (y := y) (a := a + 1) (k := k) (by omega)
      have he2 : ((y.drop (a + 1)).take 16)[k]? = some e := by rw [List.getElem?_take, if_pos (by omega)]; exact he
      have he3 := ix_drop he
      rw [show ((a + 1 : Nat) : Int) + (k : Int) = (a : Int) + 1 + (k : Int) by omega] at he3
      rw [drop_eq he2, hexv] at hv
      simp only [he3, Option.bind_some, base_c]
      cases hh : hx e with
      | none =>
        rw [hh] at hv
        simp only [show ltB (-1) 0 = true from rfl, cond_true, fail_c 4 rfl, Option.bind_some, Sum.elim_inr, W.ret, key _ hv]
        rfl
      | some d =>
        rw [hh] at hv
        have hd := hx_lt hh
        have hp := pow16 k (by omega)
        simp only [show ltB (d : Int) 0 = false from ltB_not.2 (by omega), cond_false, W.gd, i64b_eq]
        refine ⟨by omega, hn _ _ ⟨16 * U + d, k + 1, bwO4 (by omega) hd, by omega, by omega, ?_, hv⟩ (by omega)⟩
        rw [Nat.pow_succ]; omega
    · have hk : k = 16 := by omega
      have hnil : ((y.drop (a + 1)).take 16).drop 16 = [] := List.drop_eq_nil_of_le (by rw [List.length_take]; omega)
      rw [hk, hnil, hexv] at hv
      simp only [e_real_Clean, Option.bind_some, W.cond]
      refine ⟨fun hne => ?_, fun hne => ?_⟩
      · simp only [fail_c 4 rfl, Option.bind_some, Sum.elim_inr, W.ret, key _ hv]
        rw [if_neg (by simpa using hne)]; rfl
      · have hne : cln (U : Int) = (U : Int) := by simpa using hne
        simp only [s_value_OfReal, e_real_Clean, Option.bind_some, hne]
        refine W.call (w_put 17 3 [] _ y a xs (by omega) (by omega) hx') ?_
        rintro _ rfl
        simp only [key _ hv, hne, if_true]
        exact W.ret.2 rfl

theorem esc_val : ∀ h l : Fin 16, IntKind.u8.wrap (bwO .i64 (IntKind.i64.wrap ((h.val : Int) * 2 ^ 4)) (bwA .i64 (l.val : Int) 15)) = ((16 * h.val + l.val : Nat) : Int) := by decide +kernel
theorem w_escaped (y : List UInt8) (i : Nat) (a : Int) (xs : List lex_Token) (hi : i ≤ y.length) (hy : y.length ≤ 700) :
    W (fun N => s_lex_scanner_escaped_v359 N i y a xs) fun r => r.2.2 = (y, a, xs) ∧ match y.drop i with
      | p :: q :: _ => (match hx p, hx q with
        | some h, some l => r.2.1 = true ∧ r.1 = ((16 * h + l : Nat) : Int)
        | _, _ => r.2.1 = false)
      | _ => r.2.1 = false := by
  simp only [s_lex_scanner_escaped_v359, W.gd, W.cond, i64b_eq, ltB_iff, ltB_not, W.ret]
  refine ⟨by omega, fun h => ⟨trivial, ?_⟩, fun h => ?_⟩
  · have hl : (y.drop i).length < 2 := by rw [List.length_drop]; omega
    split
    · rename_i p q r he; rw [he] at hl; simp only [List.length_cons] at hl; omega
    · trivial
  · obtain ⟨p, hp⟩ := drop_get (y := y) (a := i) (k := 0) (by omega)
    obtain ⟨q, hq⟩ := drop_get (y := y) (a := i) (k := 1) (by omega)
    have e1 := drop_eq hp
    have e2 := drop_eq hq
    rw [List.drop_zero] at e1
    rw [e1, e2]
    have hp := ix_drop hp
    have hq := ix_drop hq
    rw [show (i : Int) + ((0 : Nat) : Int) = (i : Int) by omega] at hp
    rw [show (i : Int) + ((1 : Nat) : Int) = (i : Int) + 1 by omega] at hq
    simp only [hp, hq, Option.bind_some, base_c, W.gd, W.cond, W.ret, i64b_eq, true_and]
    refine ⟨by omega, ?_⟩
    cases h1 : hx p with
    | none => exact ⟨fun h => absurd h (by decide), fun _ => trivial⟩
    | some h =>
      cases h2 : hx q with
      | none => exact ⟨fun _ => rfl, fun _ => trivial⟩
      | some l =>
        have := esc_val ⟨h, hx_lt h1⟩ ⟨l, hx_lt h2⟩
        dsimp only at this ⊢
        exact ⟨fun _ => ⟨leB_iff.2 (Int.natCast_nonneg _), this⟩, fun h => absurd (leB_not.1 h) (Int.not_lt.2 (Int.natCast_nonneg _))⟩
end Go.Proofs.YtmjmbhkohcdlpaaDoor.W
namespace Go.Proofs.YtmjmbhkohcdlpaaDoor.W
open Go
set_option linter.unusedSimpArgs false
set_option linter.unusedVariables false

theorem byS_snoc (b : List Int) (x : Int) : byS (b ++ [x]) = byS b ++ [UInt8.ofNat x.toNat] := by simp [byS]
theorem byS_len (b : List Int) : (byS b).length = b.length := by simp [byS]
theorem u8eq {c : UInt8} {n : Nat} (hn : n < 256) : ((c.toNat : Int) == (n : Int)) = decide (c = UInt8.ofNat n) := by
  by_cases h : c = UInt8.ofNat n
  · subst h
    rw [decide_eq_true rfl, beq_iff_eq]
    simp [Nat.mod_eq_of_lt hn]
  · rw [decide_eq_false h, beq_eq_false_iff_ne]
    intro h2
    refine h (UInt8.toNat_inj.1 ?_)
    simp [Nat.mod_eq_of_lt hn]
    omega
theorem w_quoted (y : List UInt8) (a : Nat) (xs : List lex_Token) (ha : a < y.length) (hy : y.length ≤ 700) (hx' : xs.length ≤ 700) :
    W (fun N => s_lex_scanner_quoted_v558 N y a xs) fun r => finA r = stepR y a xs (quoR (y.drop (a + 1)) 1 []) := by
  simp only [s_lex_scanner_quoted_v558, W.gd, i64b_eq]
  refine ⟨by omega, ?_⟩
  refine W.lp5 (fun i y3 y4 ys b => ∃ j : Nat, i = ((a + j : Nat) : Int) ∧ 1 ≤ j ∧ a + j ≤ y.length ∧ y3 = y ∧ y4 = (a : Int) ∧ ys = xs ∧ b.length ≤ j ∧ quoR (y.drop (a + 1)) 1 [] = quoR (y.drop (a + j)) j (byS b)) (fun i _ _ _ _ => y.length - i.toNat) ⟨1, by omega, Nat.le_refl _, by omega, rfl, rfl, rfl, by simp, rfl⟩ ?_
  rintro F i y3 y4 ys b ⟨j, rfl, hj, hl, rfl, rfl, rfl, hb, hq⟩ hn
  have done : ∀ (n : Nat), n = j + 1 → a + n ≤ y3.length → 24 ≥ b.length → quoR (y3.drop (a + 1)) 1 [] = .inl (3, [], ⟨4, 0, 0, byS b⟩, j + 1) →
      ∀ {ι : Type} [Lim ι] (N : ι → Nat) [Tends N], W (fun i => (s_value_OfText (N i) (byS b)).bind fun o => (s_lex_scanner_put_v420 (N i) (((a + j : Nat) : Int) + 1 - (a : Int)) 3 [] o y3 a ys).bind fun p => some (.inr (.inr (p.1, p.2.1, p.2.2)) : St3 ⊕ Ft ⊕ St3)) fun r => finA r = stepR y3 a ys (quoR (y3.drop (a + 1)) 1 []) := fun n hn h1 h2 h3 {ι} _ N _ => by
    have e1 : s_value_OfText = fun N s => bif (ltB 24 (List.length s : Int)) then gd (leB 24 (List.length s : Int)) (some (value_Value.mk 4 0 0 (List.take 24 s))) else some (value_Value.mk 4 0 0 s) := rfl
    have e2 : ltB 24 ((byS b).length : Int) = false := ltB_not.2 (by rw [byS_len]; omega)
    simp only [e1, e2, cond_false, Option.bind_some]
    rw [show ((a + j : Nat) : Int) + 1 - (a : Int) = ((j + 1 : Nat) : Int) by omega]
    refine W.call (w_put (j + 1) 3 [] _ y3 a ys (by omega) (by omega) hx') ?_
    rintro _ rfl
    rw [h3]
    exact W.ret.2 rfl
  simp only [s_lex_scanner_quoted_v558_1, W.cond, W.gd, ltB_iff, ltB_not, i64b_eq]
  refine ⟨fun hlt => ?_, fun hge => ?_⟩
  rotate_left
  · have hnil : y3.drop (a + j) = [] := List.drop_eq_nil_of_le (by omega)
    rw [hnil, quoR_nil] at hq
    simp only [fail_c 3 rfl, Option.bind_some, Sum.elim_inr, W.ret]
    rw [hq]; rfl
  obtain ⟨c, hc⟩ := drop_get (y := y3) (a := a + j) (k := 0) (by omega)
  have hd := drop_eq hc
  rw [List.drop_zero, List.drop_drop] at hd
  have hc := ix_drop hc
  rw [show ((a + j : Nat) : Int) + ((0 : Nat) : Int) = ((a + j : Nat) : Int) by omega] at hc
  rw [hd] at hq
  have ebig : ∀ e : Int, (e == 0) = false → ∀ p : Int, s_fault_New = fun N e p => bif e == 0 then some (.inl ()) else some (.inr (e, p)) := fun _ _ _ => rfl
  simp only [hc, Option.bind_some, W.cond, ltB_iff, ltB_not]
  refine ⟨fun h1 => ?_, fun h1 => ⟨fun h2 => ?_, fun h2 => ⟨fun h3 => ?_, fun h3 => ⟨fun h4 => ?_, fun h4 => ?_⟩⟩⟩⟩
  · simp only [s_fault_New, show ((10 : Int) == 0) = false from rfl, cond_false, Option.bind_some, Sum.elim_inr, W.ret]
    rw [quoR_cons, if_pos (.inl (by omega))] at hq
    rw [hq]; rfl
  · simp only [s_fault_New, show ((10 : Int) == 0) = false from rfl, cond_false, Option.bind_some, Sum.elim_inr, W.ret]
    rw [quoR_cons, if_pos (.inr (by omega))] at hq
    rw [hq]; rfl
  · -- an escape
    have hc92 : c = 92 := by have := u8eq (c := c) (n := 92) (by omega); rw [show ((92 : Nat) : Int) = 92 from rfl, h3] at this; simpa using this.symm
    rw [quoR_cons, if_neg (by omega), if_pos hc92] at hq
    rw [show ((a + j : Nat) : Int) + 1 = ((a + j + 1 : Nat) : Int) by omega]
    simp only [W.gd, i64b_eq]
    refine ⟨by omega, ?_⟩
    refine W.call (w_escaped y3 (a + j + 1) a ys (by omega) hy) ?_
    rintro ⟨v, is, r3⟩ ⟨hr1, hr2⟩
    dsimp only at hr1 hr2
    subst hr1
    simp only [W.cond, W.gd, i64b_eq, s_fault_New, show ((4 : Int) == 0) = false from rfl, cond_false, Option.bind_some, Sum.elim_inr, W.ret]
    have bad : is = false → quoR (y3.drop (a + 1)) 1 [] = .inr (4, j) → W (fun _ : _ => some (Sum.inr (Sum.inl (4, ((a + j : Nat) : Int), y3, (a : Int), ys)) : St3 ⊕ Ft ⊕ St3)) (ι := Nat) fun r => finA r = stepR y3 a ys (quoR (y3.drop (a + 1)) 1 []) := fun _ h => by rw [h]; exact W.ret.2 rfl
    rcases hdd : y3.drop (a + j + 1) with _ | ⟨p, _ | ⟨q, t⟩⟩
    · rw [hdd] at hr2 hq
      dsimp only at hr2 hq
      subst hr2
      refine ⟨fun _ => by rw [hq]; rfl, fun h => by cases h⟩
    · rw [hdd] at hr2 hq
      dsimp only at hr2 hq
      subst hr2
      refine ⟨fun _ => by rw [hq]; rfl, fun h => by cases h⟩
    · rw [hdd] at hr2 hq
      dsimp only at hr2 hq
      have hlen : (y3.drop (a + j + 1)).length = t.length + 2 := by rw [hdd]; rfl
      rw [List.length_drop] at hlen
      have ht : t = y3.drop (a + (j + 3)) := by
        have : (y3.drop (a + j + 1)).drop 2 = t := by rw [hdd]; rfl
        rw [← this, List.drop_drop]
        congr 1
      cases hp : hx p with
      | none =>
        rw [hp] at hr2 hq
        dsimp only at hr2 hq
        subst hr2
        refine ⟨fun _ => by rw [hq]; rfl, fun h => by cases h⟩
      | some h =>
        cases hq2 : hx q with
        | none =>
          rw [hp, hq2] at hr2 hq
          dsimp only at hr2 hq
          subst hr2
          refine ⟨fun _ => by rw [hq]; rfl, fun h => by cases h⟩
        | some l =>
          rw [hp, hq2] at hr2 hq
          dsimp only at hr2 hq
          obtain ⟨rfl, rfl⟩ := hr2
          refine ⟨fun h => (by cases h), fun _ => ⟨Nat.ble_eq_true_of_le (by omega), by omega, ?_⟩⟩
          refine hn _ _ _ _ _ ⟨j + 3, by omega, by omega, by omega, rfl, rfl, rfl, by simp; omega, ?_⟩ (by omega)
          rw [byS_snoc, Int.toNat_natCast, ← ht]
          exact hq
  · -- a byte as it is
    have h3 : ¬ c = 92 := by have := u8eq (c := c) (n := 92) (by omega); rw [show ((92 : Nat) : Int) = 92 from rfl, h3] at this; simpa using this.symm
    have h4 : ¬ c = 39 := by
      intro h; subst h; exact absurd h4 (by decide)
    rw [quoR_cons, if_neg (by omega), if_neg h3, if_neg h4] at hq
    simp only [W.gd, i64b_eq]
    refine ⟨Nat.ble_eq_true_of_le (by omega), by omega, ?_⟩
    rw [show ((a + j : Nat) : Int) + 1 = ((a + (j + 1) : Nat) : Int) by omega]
    refine hn _ _ _ _ _ ⟨j + 1, rfl, by omega, by omega, rfl, rfl, rfl, by simp; omega, ?_⟩ (by omega)
    rw [byS_snoc, ofN]
    exact hq
  · have h3 : ¬ c = 92 := by have := u8eq (c := c) (n := 92) (by omega); rw [show ((92 : Nat) : Int) = 92 from rfl, h3] at this; simpa using this.symm
    have h39 : c = 39 := by
      have h5 : ((c.toNat : Int) == 39) = true := by cases hh : ((c.toNat : Int) == 39) <;> simp_all
      have := u8eq (c := c) (n := 39) (by omega); rw [show ((39 : Nat) : Int) = 39 from rfl, h5] at this; simpa using this.symm
    subst h39
    rw [quoR_cons, if_neg (by decide), if_neg h3, if_pos rfl] at hq
    have hfin : (¬ 24 < b.length → quoR (y3.drop (a + 1)) 1 [] = .inl (3, [], ⟨4, 0, 0, byS b⟩, j + 1)) → (24 < b.length → quoR (y3.drop (a + 1)) 1 [] = .inr (5, 0)) → ∀ {ι : Type} [Lim ι] (N : ι → Nat) [Tends N],
        (24 < (b.length : Int) → W (fun i => (s_lex_scanner_fail_v359 (N i) 5 y3 a ys).bind fun x => Sum.elim (fun fail => some (Sum.inl (fail.1, fail.2.1, fail.2.2))) (fun fail2 => some (Sum.inr (Sum.inl (fail2.1, fail2.2.1, fail2.2.2.1, fail2.2.2.2.1, fail2.2.2.2.2)))) x) (α := St3 ⊕ Ft ⊕ St3) fun r => finA r = stepR y3 a ys (quoR (y3.drop (a + 1)) 1 [])) := fun _ h2 {ι} _ N _ h => by
      simp only [fail_c 5 rfl, Option.bind_some, Sum.elim_inr, W.ret]
      rw [h2 (by omega)]; rfl
    simp only [W.gd, W.cond, i64b_eq, ltB_iff, ltB_not]
    refine ⟨by omega, fun h5 => ⟨by omega, ?_⟩, fun h5 => ?_⟩
    · obtain ⟨x, hx⟩ := drop_get (y := y3) (a := a + j + 1) (k := 0) (by omega)
      have hdx := drop_eq hx
      rw [List.drop_zero, List.drop_drop] at hdx
      have hx := ix_drop hx
      rw [show ((a + j + 1 : Nat) : Int) + ((0 : Nat) : Int) = ((a + j : Nat) : Int) + 1 by omega] at hx
      rw [hdx] at hq
      dsimp only at hq
      simp only [hx, Option.bind_some, W.cond, W.gd, i64b_eq, ltB_iff, ltB_not]
      refine ⟨fun h6 => ?_, fun h6 => ?_⟩
      · have hx39 : x = 39 := by have := u8eq (c := x) (n := 39) (by omega); rw [show ((39 : Nat) : Int) = 39 from rfl, h6] at this; simpa using this.symm
        rw [if_pos hx39] at hq
        refine ⟨Nat.ble_eq_true_of_le (by omega), by omega, ?_⟩
        refine hn _ _ _ _ _ ⟨j + 2, by omega, by omega, by omega, rfl, rfl, rfl, by simp; omega, ?_⟩ (by omega)
        rw [byS_snoc]
        exact hq
      · have hx39 : ¬ x = 39 := by have := u8eq (c := x) (n := 39) (by omega); rw [show ((39 : Nat) : Int) = 39 from rfl, h6] at this; simpa using this.symm
        rw [if_neg hx39] at hq
        refine ⟨fun h7 => hfin (fun h => absurd (by omega) h) (fun h => by rw [hq, if_pos (by rw [byS_len]; exact h)]) _ h7, fun h7 => ⟨by omega, by omega, ?_⟩⟩
        exact done _ rfl (by omega) (by omega) (by rw [hq, if_neg (by rw [byS_len]; omega)]) _
    · have hnil : y3.drop (a + j + 1) = [] := List.drop_eq_nil_of_le (by omega)
      rw [hnil] at hq
      dsimp only at hq
      refine ⟨fun h7 => hfin (fun h => absurd (by omega) h) (fun h => by rw [hq, if_pos (by rw [byS_len]; exact h)]) _ h7, fun h7 => ⟨by omega, by omega, ?_⟩⟩
      exact done _ rfl (by omega) (by omega) (by rw [hq, if_neg (by rw [byS_len]; omega)]) _
end Go.Proofs.YtmjmbhkohcdlpaaDoor.W
namespace Go.Proofs.YtmjmbhkohcdlpaaDoor.W
open Go
set_option linter.unusedSimpArgs false
set_option linter.unusedVariables false

theorem sub_take {y : List UInt8} {a m : Nat} : List.drop (Int.toNat (a : Int)) (List.take (Int.toNat ((a : Int) + (m : Int))) y) = (y.drop a).take m := by
  rw [show Int.toNat ((a : Int) + (m : Int)) = a + m by omega, Int.toNat_natCast, List.drop_take, Nat.add_sub_cancel_left]
def sigR (c : UInt8) (t : List UInt8) : List UInt8 := if isC c ∧ t.head? = some 61 then [c, 61] else [c]
theorem signR_eq (c : UInt8) (t : List UInt8) : signR c t = .inl (4, sigR c t, zv, (sigR c t).length) := by
  unfold signR sigR; split <;> rfl
theorem w_sign (y : List UInt8) (a : Nat) (xs : List lex_Token) (c : UInt8) (t : List UInt8) (hd : y.drop a = c :: t) (hy : y.length ≤ 700) (hx' : xs.length ≤ 700) :
    W (fun N => s_lex_scanner_sign_v558 N y a xs) (· = (y, ((a + (sigR c t).length : Nat) : Int), xs ++ [⟨4, (a : Int), sigR c t, zv⟩])) := by
  have hl : (y.drop a).length = t.length + 1 := by rw [hd]; rfl
  rw [List.length_drop] at hl
  have hc : ix y (a : Int) = some c := by
    have := ix_drop (y := y) (a := a) (k := 0) (e := c) (by rw [hd]; rfl)
    rwa [show (a : Int) + ((0 : Nat) : Int) = (a : Int) by omega] at this
  have t1 := sub_take (y := y) (a := a) (m := 1)
  have t2 := sub_take (y := y) (a := a) (m := 2)
  rw [hd] at t1 t2
  rw [show ((1 : Nat) : Int) = 1 from rfl] at t1
  rw [show ((2 : Nat) : Int) = 2 from rfl] at t2
  have put : ∀ (x : List UInt8) (n : Nat), x = sigR c t → n = (sigR c t).length → n ≤ 2 → ∀ {ι : Type} [Lim ι] (N : ι → Nat) [Tends N], W (fun i => (s_lex_scanner_put_v420 (N i) (n : Int) 4 x (value_Value.mk 0 0 0 []) y a xs).bind fun p => some ((p.1, p.2.1, p.2.2) : St3)) (· = (y, ((a + (sigR c t).length : Nat) : Int), xs ++ [⟨4, (a : Int), sigR c t, zv⟩])) := fun x n h1 h2 h3 {ι} _ N _ => by
    refine W.call (w_put n 4 x _ y a xs (by omega) (by omega) hx') ?_
    rintro _ rfl
    subst h1
    rw [h2]
    exact W.ret.2 rfl
  simp only [s_lex_scanner_sign_v558, hc, Option.bind_some, index_c, W.cond, W.gd, i64b_eq, leB_iff, ltB_iff, ltB_not]
  rw [show (leB 0 (Lib.indexByte [33, 60, 62] c)) = isC c from rfl] at *
  have one : (t.head? = some 61 → isC c = false) → sigR c t = [c] := fun h => by
    rw [sigR, if_neg]; rintro ⟨h1, h2⟩; rw [h h2] at h1; cases h1
  refine ⟨fun h => ⟨by omega, fun h2 => ⟨by omega, ?_⟩, fun h2 => ⟨by omega, by omega, by omega, by omega, ?_⟩⟩, fun h => ⟨by omega, by omega, by omega, by omega, ?_⟩⟩
  · cases t with
    | nil => simp at hl; omega
    | cons d t =>
      have hd1 := ix_drop (y := y) (a := a) (k := 1) (e := d) (by rw [hd]; rfl)
      rw [show (a : Int) + ((1 : Nat) : Int) = (a : Int) + 1 by omega] at hd1
      simp only [hd1, Option.bind_some, W.cond, W.gd, i64b_eq, leB_iff]
      refine ⟨fun h3 => ⟨by omega, by omega, by omega, by omega, ?_⟩, fun h3 => ⟨by omega, by omega, by omega, by omega, ?_⟩⟩
      · have h61 : d = 61 := by have := u8eq (c := d) (n := 61) (by omega); rw [show ((61 : Nat) : Int) = 61 from rfl, h3] at this; simpa using this.symm
        subst h61
        have hs : sigR c (61 :: t) = [c, 61] := by rw [sigR, if_pos ⟨leB_iff.2 h, rfl⟩]
        rw [t2]
        exact put _ 2 (by rw [hs]; rfl) (by rw [hs]; rfl) (by omega) _
      · have h61 : ¬ d = 61 := by have := u8eq (c := d) (n := 61) (by omega); rw [show ((61 : Nat) : Int) = 61 from rfl, h3] at this; simpa using this.symm
        have hs := one (fun h => by cases h; exact absurd rfl h61)
        rw [t1]
        exact put _ 1 (by rw [hs]; rfl) (by rw [hs]; rfl) (by omega) _
  · have hs := one (fun h => by cases t with | nil => cases h | cons d t => simp at hl; omega)
    rw [t1]
    exact put _ 1 (by rw [hs]; rfl) (by rw [hs]; rfl) (by omega) _
  · have h : isC c = false := by
      cases hh : isC c with
      | false => rfl
      | true => exact absurd (leB_iff.1 (show leB 0 (Lib.indexByte [33, 60, 62] c) = true from hh)) (by have := leB_not.1 h; omega)
    have hs := one (fun _ => h)
    rw [t1]
    exact put _ 1 (by rw [hs]; rfl) (by rw [hs]; rfl) (by omega) _

theorem w_token (y : List UInt8) (a : Nat) (xs : List lex_Token) (c : UInt8) (t : List UInt8) (hd : y.drop a = c :: t) (hy : y.length ≤ 700) (hx' : xs.length ≤ 200) :
    W (fun N => s_lex_scanner_token_v558 N y a xs) fun r => finA r = if known c && decide (xs.length = 200) then .inr (7, (a : Int)) else stepR y a xs (oneR (c :: t)) := by
  have hl : (y.drop a).length = t.length + 1 := by rw [hd]; rfl
  rw [List.length_drop] at hl
  have ha : a < y.length := by omega
  have hd1 : y.drop (a + 1) = t := by
    have : (y.drop a).drop 1 = t := by rw [hd]; rfl
    rw [← this, List.drop_drop]
  have hc : ix y (a : Int) = some c := by
    have := ix_drop (y := y) (a := a) (k := 0) (e := c) (by rw [hd]; rfl)
    rwa [show (a : Int) + ((0 : Nat) : Int) = (a : Int) by omega] at this
  have e200 : ((xs.length : Int) == 200) = decide (xs.length = 200) := by
    by_cases h : xs.length = 200
    · rw [decide_eq_true h, beq_iff_eq]; omega
    · rw [decide_eq_false h, beq_eq_false_iff_ne]; omega
  have full : ∀ {Q : St3 ⊕ Ft ⊕ St3 → Prop}, Q (.inr (.inl (7, (a : Int), y, (a : Int), xs))) → ∀ {ι : Type} [Lim ι] (N : ι → Nat) [Tends N], W (fun i => (s_lex_scanner_fail_v359 (N i) 7 y a xs).bind fun x => Sum.elim (fun fail => some (Sum.inl (fail.1, fail.2.1, fail.2.2))) (fun fail2 => some (Sum.inr (Sum.inl (fail2.1, fail2.2.1, fail2.2.2.1, fail2.2.2.2.1, fail2.2.2.2.2)))) x) Q := fun {Q} h {ι} _ N _ => by
    simp only [fail_c 7 rfl, Option.bind_some, Sum.elim_inr]
    exact W.ret.2 h
  simp only [s_lex_scanner_token_v558, hc, Option.bind_some, small_c, digit_c, index_c, e200]
  simp only [show ∀ c, (leB 0 (Lib.indexByte [40, 41, 91, 93, 123, 125, 59, 124, 33, 58, 44, 46, 43, 42, 63, 45, 61, 60, 62] c)) = isG c from fun _ => rfl]
  have kn : ∀ {b : Bool}, known c = b → known c = b := id
  by_cases hS : isS c = true
  · have hk : known c = true := by simp [known, hS]
    simp only [hS, hk, cond_true, Bool.true_and, oneR, if_true]
    refine W.cond.2 ⟨fun h => full (by simp only [h, if_true]; rfl) _, fun h => ?_⟩
    simp only [h, Bool.false_eq_true, if_false]
    refine W.call (w_word y a xs (by omega) hy (by omega)) ?_
    rw [hd]
    rintro (r | r | r) hr <;> simp only [Sum.elim_inl, Sum.elim_inr, W.ret] <;> exact hr
  have hS := eq_false_of_ne_true hS
  by_cases hD : isD c = true
  · have hk : known c = true := by simp [known, hD]
    simp only [hS, hD, hk, cond_true, cond_false, Bool.true_and, oneR, if_true, Bool.false_eq_true, if_false]
    refine W.cond.2 ⟨fun h => full (by simp only [h, if_true]; rfl) _, fun h => ?_⟩
    simp only [h, Bool.false_eq_true, if_false]
    refine W.call (w_number y a xs (by omega) hy (by omega)) ?_
    rw [hd]
    rintro (r | r | r) hr <;> simp only [Sum.elim_inl, Sum.elim_inr, W.ret] <;> exact hr
  have hD := eq_false_of_ne_true hD
  by_cases h35 : ((c.toNat : Int) == 35) = true
  · have hk : known c = true := by simp [known, h35]
    simp only [hS, hD, h35, hk, cond_true, cond_false, Bool.true_and, oneR, if_true, Bool.false_eq_true, if_false]
    refine W.cond.2 ⟨fun h => full (by simp only [h, if_true]; rfl) _, fun h => ?_⟩
    simp only [h, Bool.false_eq_true, if_false]
    refine W.call (w_double y a xs (by omega) hy (by omega)) ?_
    rw [hd1]
    rintro (r | r | r) hr <;> simp only [Sum.elim_inl, Sum.elim_inr, W.ret] <;> exact hr
  have h35 := eq_false_of_ne_true h35
  by_cases h39 : ((c.toNat : Int) == 39) = true
  · have hk : known c = true := by simp [known, h39]
    simp only [hS, hD, h35, h39, hk, cond_true, cond_false, Bool.true_and, oneR, if_true, Bool.false_eq_true, if_false]
    refine W.cond.2 ⟨fun h => full (by simp only [h, if_true]; rfl) _, fun h => ?_⟩
    simp only [h, Bool.false_eq_true, if_false]
    refine W.call (w_quoted y a xs (by omega) hy (by omega)) ?_
    rw [hd1]
    rintro (r | r | r) hr <;> simp only [Sum.elim_inl, Sum.elim_inr, W.ret] <;> exact hr
  have h39 := eq_false_of_ne_true h39
  by_cases hG : isG c = true
  · have hk : known c = true := by simp [known, hG]
    simp only [hS, hD, h35, h39, hG, hk, cond_true, cond_false, Bool.true_and, oneR, if_true, Bool.false_eq_true, if_false, Bool.not_true]
    refine W.cond.2 ⟨fun h => full (by simp only [h, if_true]; rfl) _, fun h => ?_⟩
    simp only [h, Bool.false_eq_true, if_false]
    refine W.call (w_sign y a xs c t hd hy (by omega)) ?_
    rintro _ rfl
    rw [signR_eq]
    exact W.ret.2 rfl
  have hG := eq_false_of_ne_true hG
  have hk : known c = false := by simp [known, hS, hD, h35, h39, hG]
  simp only [hS, hD, h35, h39, hG, hk, cond_true, cond_false, Bool.false_and, oneR, Bool.false_eq_true, if_false, Bool.not_false, fail_c 10 rfl, Option.bind_some, Sum.elim_inr, W.ret]
  rfl

theorem oneR_len {r : List UInt8} {k : Int} {x : List UInt8} {v : value_Value} {m : Nat} (h : oneR r = .inl (k, x, v, m)) : True := trivial
theorem scanR_nil (p : Nat) (out : List lex_Token) : scanR [] p out = .inl out := by rw [scanR.eq_def]
theorem scanR_cons (c : UInt8) (t : List UInt8) (p : Nat) (out : List lex_Token) : scanR (c :: t) p out =
    if blank c then scanR t (p + 1) out
    else if known c && decide (out.length = 200) then .inr (7, (p : Int))
    else match oneR (c :: t) with
      | .inr (e, o) => .inr (e, ((p + o : Nat) : Int))
      | .inl (k, x, v, m) => scanR (t.drop (m - 1)) (p + m) (out ++ [⟨k, (p : Int), x, v⟩]) := by
  rw [scanR.eq_def] <;> rfl
def scanE : List lex_Token ⊕ (Int × Int) → List lex_Token ⊕ (List lex_Token × Int × Int)
  | .inl l => .inl l
  | .inr (e, a) => .inr ([], e, a)
/-- The length of a token lies within the text, and is not nothing. -/
theorem quoR_len : ∀ (n : Nat) (t : List UInt8), t.length ≤ n → ∀ {off : Nat} {b : List UInt8} {k : Int} {x : List UInt8} {v : value_Value} {m : Nat}, 1 ≤ off → quoR t off b = .inl (k, x, v, m) → off < m ∧ m ≤ off + t.length
  | n, [], _, off, b, k, x, v, m, _, h => by rw [quoR_nil] at h; cases h
  | 0, c :: t, hn, _, _, _, _, _, _, _, _ => by simp at hn
  | n + 1, c :: t, hn, off, b, k, x, v, m, ho, h => by
    simp only [List.length_cons, Nat.add_le_add_iff_right] at hn
    rw [quoR_cons] at h
    split at h
    · cases h
    · split at h
      · split at h
        · rename_i p q t'
          split at h
          · have := quoR_len n _ (by simp at hn; omega) (by omega) h
            simp only [List.length_cons]; omega
          · cases h
        · cases h
      · split at h
        · split at h
          · rename_i p t'
            split at h
            · have := quoR_len n _ (by simp at hn; omega) (by omega) h
              simp only [List.length_cons]; omega
            · split at h
              · cases h
              · cases h; simp only [List.length_cons]; omega
          · split at h
            · cases h
            · cases h; simp only [List.length_cons, List.length_nil]; omega
        · have := quoR_len n _ hn (by omega) h
          simp only [List.length_cons]; omega
theorem oneR_m {c : UInt8} {t : List UInt8} {k : Int} {x : List UInt8} {v : value_Value} {m : Nat} (h : oneR (c :: t) = .inl (k, x, v, m)) : 1 ≤ m ∧ m ≤ t.length + 1 := by
  simp only [oneR] at h
  split at h
  · rename_i hs
    have h1 : 1 ≤ ((c :: t).takeWhile isT).length := by rw [List.takeWhile_cons, if_pos (by simp [isT, hs])]; simp
    have h2 := tw_le isT (c :: t)
    simp only [List.length_cons] at h2
    unfold wordR at h
    repeat' split at h
    all_goals first | (cases h; omega) | cases h
  · split at h
    · rename_i hs
      have h1 : 1 ≤ ((c :: t).takeWhile isD).length := by rw [List.takeWhile_cons, if_pos hs]; simp
      have h2 := tw_le isD (c :: t)
      simp only [List.length_cons] at h2
      unfold numR at h
      repeat' split at h
      all_goals first | (cases h; omega) | cases h
    · split at h
      · unfold dblR at h
        split at h
        · cases h
        · split at h
          · cases h
          · split at h
            · cases h; omega
            · cases h
      · split at h
        · have := quoR_len _ t (Nat.le_refl _) (by omega) h
          omega
        · split at h
          · rename_i hg
            rw [signR_eq] at h
            cases h
            unfold sigR
            split
            · rename_i hh
              cases t with
              | nil => cases hh.2
              | cons => simp
            · simp
          · cases h
theorem blank_c (c : UInt8) : blank c = (((c.toNat : Int) == 32) || ((c.toNat : Int) == 9) || ((c.toNat : Int) == 10)) := rfl
theorem w_Scan (s : List UInt8) (hs : s.length ≤ 700) : W (fun N => s_lex_Scan N s) (· = scanE (scan s)) := by
  simp only [s_lex_Scan, W.cond, ltB_iff, ltB_not, scan]
  refine ⟨fun h => ?_, fun h => ?_⟩
  · simp only [s_fault_New, show ((5 : Int) == 0) = false from rfl, cond_false, Option.bind_some, Sum.elim_inr, W.ret]
    rw [if_pos (by omega)]; rfl
  · rw [if_neg (by omega)]
    refine W.lp3 (fun y p ys => ∃ a : Nat, p = (a : Int) ∧ y = s ∧ a ≤ s.length ∧ ys.length ≤ 200 ∧ scanR s 0 [] = scanR (s.drop a) a ys) (fun _ p _ => s.length - p.toNat) ⟨0, rfl, rfl, Nat.zero_le _, by simp, rfl⟩ ?_
    rintro F y p ys ⟨a, rfl, rfl, ha, hl, hq⟩ hn
    simp only [s_lex_Scan_1, W.cond, ltB_iff, ltB_not]
    refine ⟨fun h1 => ?_, fun h1 => ?_⟩
    · obtain ⟨c, hc⟩ := drop_get (y := y) (a := a) (k := 0) (by omega)
      have hd := drop_eq hc
      rw [List.drop_zero, List.drop_drop] at hd
      have hc := ix_drop hc
      rw [show (a : Int) + ((0 : Nat) : Int) = (a : Int) by omega] at hc
      rw [hd, scanR_cons] at hq
      have skip : blank c = true → W (fun p : Nat × Nat => F p y ((a : Int) + 1) ys) fun r => r = scanE (scanR y 0 []) := fun hb => by
        rw [show (a : Int) + 1 = ((a + 1 : Nat) : Int) by omega]
        rw [if_pos hb] at hq
        exact hn _ _ _ ⟨a + 1, rfl, rfl, by omega, hl, hq⟩ (by omega)
      simp only [hc, Option.bind_some, W.cond, W.gd, i64b_eq]
      refine ⟨fun h => ⟨by omega, skip (by simp [blank, h])⟩, fun h2 => ⟨fun h => ⟨by omega, skip (by simp [blank, h])⟩, fun h3 => ⟨fun h => ⟨by omega, skip (by simp [blank, h])⟩, fun h4 => ?_⟩⟩⟩
      rw [if_neg (by simp only [blank, h2, h3, h4]; decide)] at hq
      refine W.call (w_token y a ys c _ hd (by omega) hl) ?_
      intro r hr
      by_cases hfull : (known c && decide (ys.length = 200)) = true
      · rw [if_pos hfull] at hr hq
        rcases r with r | ⟨e1, p1, r⟩ | r
        · cases hr
        · simp only [Sum.elim_inl, Sum.elim_inr, W.ret]
          simp only [finA] at hr
          cases hr
          rw [hq]; rfl
        · cases hr
      · rw [if_neg hfull] at hr hq
        cases ho : oneR (c :: y.drop (a + 1)) with
        | inr f =>
          obtain ⟨e, o⟩ := f
          rw [ho] at hr hq
          rcases r with r | ⟨e1, p1, r⟩ | r
          · cases hr
          · simp only [Sum.elim_inl, Sum.elim_inr, W.ret]
            simp only [finA, stepR] at hr
            cases hr
            rw [hq]; rfl
          · cases hr
        | inl f =>
          obtain ⟨k, x, v, m⟩ := f
          rw [ho] at hr hq
          dsimp only at hq
          have hm := oneR_m ho
          rw [List.length_drop] at hm
          have hlen : ys.length < 200 := by
            have hk : known c = true := by
              cases hk : known c with
              | true => rfl
              | false =>
                simp only [known, Bool.or_eq_false_iff] at hk
                simp only [oneR, hk.1.1.1.1, hk.1.1.1.2, hk.1.1.2, hk.1.2, hk.2, Bool.false_eq_true, if_false] at ho
                cases ho
            rw [hk] at hfull
            simp only [Bool.true_and, decide_eq_true_eq] at hfull
            omega
          rw [List.drop_drop, show a + 1 + (m - 1) = a + m by omega] at hq
          have next : W (fun p : Nat × Nat => F p y ((a + m : Nat) : Int) (ys ++ [⟨k, (a : Int), x, v⟩])) fun r => r = scanE (scanR y 0 []) := hn _ _ _ ⟨a + m, rfl, rfl, by omega, by simp; omega, hq⟩ (by omega)
          rcases r with r | r | r
          · simp only [finA, stepR] at hr
            cases hr
            simp only [Sum.elim_inl]; exact next
          · cases hr
          · simp only [finA, stepR] at hr
            cases hr
            simp only [Sum.elim_inr]; exact next
    · have hnil : y.drop a = [] := List.drop_eq_nil_of_le (by omega)
      rw [hnil, scanR_nil] at hq
      rw [hq]; exact W.ret.2 rfl
end Go.Proofs.YtmjmbhkohcdlpaaDoor.W
namespace Go.Proofs.YtmjmbhkohcdlpaaDoor.W
open Go
set_option linter.unusedSimpArgs false
set_option linter.unusedVariables false

theorem tw_app {α : Type} {p : α → Bool} {d : α} {b : List α} (hd : p d = false) : ∀ l : List α, (l ++ d :: b).takeWhile p = l.takeWhile p
  | [] => by simp [List.takeWhile_cons, hd]
  | x :: l => by
    simp only [List.cons_append, List.takeWhile_cons]
    rw [tw_app hd l]
theorem hexv_none' {l : List UInt8} {k : Nat} {e : UInt8} (h : l[k]? = some e) (he : hx e = none) : ∀ U, hexv U l = none := by
  induction l generalizing k with
  | nil => simp at h
  | cons c t ih =>
    intro U
    rw [hexv]
    cases hc : hx c with
    | none => rfl
    | some d =>
      cases k with
      | zero => simp only [List.getElem?_cons_zero, Option.some.injEq] at h; subst h; rw [he] at hc; cases hc
      | succ k => exact ih (by simpa using h) _
/-- A byte that no token takes. -/
structure Dl (d : UInt8) : Prop where
  T : isT d = false
  D : isD d = false
  H : hx d = none
  e61 : d ≠ 61
  e39 : d ≠ 39
theorem dl9 : Dl 9 := ⟨by decide, by decide, by decide, by decide, by decide⟩
theorem dl32 : Dl 32 := ⟨by decide, by decide, by decide, by decide, by decide⟩
theorem dbl_app {d : UInt8} (hd : Dl d) (t b : List UInt8) : dblR (t ++ d :: b) = dblR t := by
  by_cases h : t.length < 16
  · have h1 : dblR t = .inr (4, 0) := by rw [dblR, if_pos h]
    rw [h1, dblR]
    split
    · rfl
    · have : hexv 0 ((t ++ d :: b).take 16) = none := hexv_none' (k := t.length) (e := d) (by rw [List.getElem?_take, if_pos h]; simp) hd.H 0
      rw [this]
  · have e : (t ++ d :: b).take 16 = t.take 16 := by rw [List.take_append_of_le_length (by omega)]
    rw [dblR, dblR, if_neg h, if_neg (by simp; omega), e]
theorem sign_app {d : UInt8} (hd : Dl d) (c : UInt8) (t b : List UInt8) : signR c (t ++ d :: b) = signR c t := by
  cases t with
  | nil =>
    have : ¬ d = 61 := hd.e61
    simp [signR, this]
  | cons x t => rfl
theorem quo_app {d : UInt8} (hd : Dl d) (b : List UInt8) : ∀ (n : Nat) (t : List UInt8), t.length ≤ n → ∀ (off : Nat) (acc : List UInt8),
    (∀ x, quoR t off acc = .inl x → quoR (t ++ d :: b) off acc = .inl x) ∧
    (∀ e o, quoR t off acc = .inr (e, o) → e ≠ 3 → quoR (t ++ d :: b) off acc = .inr (e, o)) ∧
    (∀ o, quoR t off acc = .inr (3, o) → d.toNat < 32 → quoR (t ++ d :: b) off acc = .inr (10, off + t.length))
  | n, [], _, off, acc => by
    refine ⟨fun x h => ?_, fun e o h he => ?_, fun o h h32 => ?_⟩
    · rw [quoR_nil] at h; cases h
    · rw [quoR_nil] at h; cases h; exact absurd rfl he
    · rw [List.nil_append, quoR_cons, if_pos (.inl h32)]; rfl
  | 0, c :: t, hn, _, _ => by simp at hn
  | n + 1, c :: t, hn, off, acc => by
    simp only [List.length_cons, Nat.add_le_add_iff_right] at hn
    rw [List.cons_append, quoR_cons, quoR_cons]
    by_cases h1 : c.toNat < 32 ∨ 126 < c.toNat
    · rw [if_pos h1, if_pos h1]
      exact ⟨fun x h => (by cases h), fun e o h _ => h, fun o h => by cases h⟩
    rw [if_neg h1, if_neg h1]
    by_cases h2 : c = 92
    · rw [if_pos h2, if_pos h2]
      match t, hn with
      | [], _ =>
        cases b with
        | nil => exact ⟨fun x h => (by cases h), fun e o h _ => h, fun o h => by cases h⟩
        | cons y b =>
          simp only [List.nil_append, hd.H]
          exact ⟨fun x h => (by cases h), fun e o h _ => h, fun o h => by cases h⟩
      | [x], _ =>
        simp only [List.cons_append, List.nil_append, hd.H]
        cases hx x <;> exact ⟨fun x h => (by cases h), fun e o h _ => h, fun o h => by cases h⟩
      | x :: y :: t, hn =>
        simp only [List.cons_append]
        cases hx x with
        | none => exact ⟨fun x h => (by cases h), fun e o h _ => h, fun o h => by cases h⟩
        | some h =>
          cases hx y with
          | none => exact ⟨fun x h => (by cases h), fun e o h _ => h, fun o h => by cases h⟩
          | some l =>
            obtain ⟨q1, q2, q3⟩ := quo_app hd b n t (by simp at hn; omega) (off + 3) (acc ++ [UInt8.ofNat (16 * h + l)])
            dsimp only
            refine ⟨q1, q2, fun o h h32 => ?_⟩
            rw [q3 o h h32]
            simp only [List.length_cons]; congr 2; omega
    rw [if_neg h2, if_neg h2]
    by_cases h3 : c = 39
    · rw [if_pos h3, if_pos h3]
      cases t with
      | nil =>
        simp only [List.nil_append]
        rw [if_neg hd.e39]
        split
        · exact ⟨fun x h => (by cases h), fun e o h _ => h, fun o h => by cases h⟩
        · exact ⟨fun x h => h, fun e o h _ => (by cases h), fun o h => by cases h⟩
      | cons x t =>
        simp only [List.cons_append]
        by_cases h4 : x = 39
        · rw [if_pos h4, if_pos h4]
          obtain ⟨q1, q2, q3⟩ := quo_app hd b n t (by simp at hn; omega) (off + 2) (acc ++ [39])
          refine ⟨q1, q2, fun o h h32 => ?_⟩
          rw [q3 o h h32]
          simp only [List.length_cons]; congr 2; omega
        · rw [if_neg h4, if_neg h4]
          split
          · exact ⟨fun x h => (by cases h), fun e o h _ => h, fun o h => by cases h⟩
          · exact ⟨fun x h => h, fun e o h _ => (by cases h), fun o h => by cases h⟩
    rw [if_neg h3, if_neg h3]
    obtain ⟨q1, q2, q3⟩ := quo_app hd b n t hn (off + 1) (acc ++ [c])
    refine ⟨q1, q2, fun o h h32 => ?_⟩
    rw [q3 o h h32]
    simp only [List.length_cons]; congr 2; omega
theorem numR_3 {w : List UInt8} {e : Int} {o : Nat} (h : numR w = .inr (e, o)) : e ≠ 3 := by
  unfold numR at h
  repeat' split at h
  all_goals first | (cases h; decide) | cases h
theorem wordR_3 {w : List UInt8} {e : Int} {o : Nat} (h : wordR w = .inr (e, o)) : e ≠ 3 := by
  unfold wordR at h
  repeat' split at h
  all_goals first | (cases h; decide) | cases h
theorem dblR_3 {w : List UInt8} {e : Int} {o : Nat} (h : dblR w = .inr (e, o)) : e ≠ 3 := by
  unfold dblR at h
  repeat' split at h
  all_goals first | (cases h; decide) | cases h
theorem one_app {d : UInt8} (hd : Dl d) (b : List UInt8) (c : UInt8) (t : List UInt8) :
    (∀ x, oneR (c :: t) = .inl x → oneR (c :: t ++ d :: b) = .inl x) ∧
    (∀ e o, oneR (c :: t) = .inr (e, o) → e ≠ 3 → oneR (c :: t ++ d :: b) = .inr (e, o)) ∧
    (∀ o, oneR (c :: t) = .inr (3, o) → d.toNat < 32 → oneR (c :: t ++ d :: b) = .inr (10, t.length + 1)) := by
  have e1 : (c :: (t ++ d :: b)).takeWhile isT = (c :: t).takeWhile isT := tw_app hd.T (c :: t)
  have e2 : (c :: (t ++ d :: b)).takeWhile isD = (c :: t).takeWhile isD := tw_app hd.D (c :: t)
  simp only [List.cons_append, oneR, e1, e2, dbl_app hd, sign_app hd]
  by_cases hS : isS c = true
  · simp only [hS, if_true]
    exact ⟨fun x h => h, fun e o h _ => h, fun o h => absurd rfl (wordR_3 h)⟩
  simp only [hS, Bool.false_eq_true, if_false]
  by_cases hD : isD c = true
  · simp only [hD, if_true]
    exact ⟨fun x h => h, fun e o h _ => h, fun o h => absurd rfl (numR_3 h)⟩
  simp only [hD, Bool.false_eq_true, if_false]
  by_cases h35 : ((c.toNat : Int) == 35) = true
  · simp only [h35, if_true]
    exact ⟨fun x h => h, fun e o h _ => h, fun o h => absurd rfl (dblR_3 h)⟩
  simp only [h35, Bool.false_eq_true, if_false]
  by_cases h39 : ((c.toNat : Int) == 39) = true
  · simp only [h39, if_true]
    obtain ⟨q1, q2, q3⟩ := quo_app hd b _ t (Nat.le_refl _) 1 []
    exact ⟨q1, q2, fun o h h32 => by rw [q3 o h h32, Nat.add_comm]⟩
  simp only [h39, Bool.false_eq_true, if_false]
  by_cases hG : isG c = true
  · simp only [hG, if_true, signR_eq]
    exact ⟨fun x h => h, fun e o h _ => h, fun o h => by cases h⟩
  simp only [hG, Bool.false_eq_true, if_false]
  exact ⟨fun x h => (by cases h), fun e o h _ => h, fun o h => by cases h⟩
end Go.Proofs.YtmjmbhkohcdlpaaDoor.W
namespace Go.Proofs.YtmjmbhkohcdlpaaDoor.W
open Go
set_option linter.unusedSimpArgs false
set_option linter.unusedVariables false

theorem one_known {c : UInt8} {t : List UInt8} {k : Int} {x : List UInt8} {v : value_Value} {m : Nat} (ho : oneR (c :: t) = .inl (k, x, v, m)) : known c = true := by
  cases hk : known c with
  | true => rfl
  | false =>
    simp only [known, Bool.or_eq_false_iff] at hk
    simp only [oneR, hk.1.1.1.1, hk.1.1.1.2, hk.1.1.2, hk.1.2, hk.2, Bool.false_eq_true, if_false] at ho
    cases ho
theorem blank_known : ∀ c : UInt8, blank c = true → known c = false := byte_all (by decide +kernel)
theorem quoR_o : ∀ (n : Nat) (t : List UInt8), t.length ≤ n → ∀ {off : Nat} {b : List UInt8} {e : Int} {o : Nat}, quoR t off b = .inr (e, o) → o ≤ off + t.length
  | n, [], _, off, b, e, o, h => by rw [quoR_nil] at h; cases h; omega
  | 0, c :: t, hn, _, _, _, _, _ => by simp at hn
  | n + 1, c :: t, hn, off, b, e, o, h => by
    simp only [List.length_cons, Nat.add_le_add_iff_right] at hn
    rw [quoR_cons] at h
    split at h
    · cases h; omega
    · split at h
      · split at h
        · split at h
          · have := quoR_o n _ (by simp at hn; omega) h
            simp only [List.length_cons]; omega
          · cases h; omega
        · cases h; omega
      · split at h
        · split at h
          · split at h
            · have := quoR_o n _ (by simp at hn; omega) h
              simp only [List.length_cons]; omega
            · split at h
              · cases h; omega
              · cases h
          · split at h
            · cases h; omega
            · cases h
        · have := quoR_o n _ hn h
          simp only [List.length_cons]; omega
theorem oneR_o {c : UInt8} {t : List UInt8} {e : Int} {o : Nat} (h : oneR (c :: t) = .inr (e, o)) : o ≤ t.length + 1 ∧ (e = 3 ∨ e ≠ 3) := by
  refine ⟨?_, Classical.em _⟩
  simp only [oneR] at h
  split at h
  · unfold wordR at h
    repeat' split at h
    all_goals first | (cases h; omega) | cases h
  · split at h
    · unfold numR at h
      repeat' split at h
      all_goals first | (cases h; omega) | cases h
    · split at h
      · unfold dblR at h
        repeat' split at h
        all_goals first | (cases h; omega) | cases h
      · split at h
        · have := quoR_o _ t (Nat.le_refl _) h
          omega
        · split at h
          · rw [signR_eq] at h; cases h
          · cases h; omega
theorem scanR_at : ∀ (n : Nat) (r : List UInt8), r.length ≤ n → ∀ {p : Nat} {out : List lex_Token} {e q : Int}, scanR r p out = .inr (e, q) → (p : Int) ≤ q ∧ q ≤ ((p + r.length : Nat) : Int)
  | n, [], _, p, out, e, q, h => by rw [scanR_nil] at h; cases h
  | 0, c :: t, hn, _, _, _, _, _ => by simp at hn
  | n + 1, c :: t, hn, p, out, e, q, h => by
    simp only [List.length_cons, Nat.add_le_add_iff_right] at hn ⊢
    rw [scanR_cons] at h
    split at h
    · have := scanR_at n t hn h
      omega
    · split at h
      · cases h; omega
      · split at h
        · rename_i ho
          have := oneR_o ho
          cases h; omega
        · rename_i k x v m ho
          have hm := oneR_m ho
          have := scanR_at n _ (by rw [List.length_drop]; omega) h
          rw [List.length_drop] at this
          omega
/-- Places rise, from one on and ahead of another one. -/
def Asc (hi : Nat) : Nat → List lex_Token → Prop
  | _, [] => True
  | lo, t :: l => ∃ a : Nat, t.At = (a : Int) ∧ lo ≤ a ∧ a < hi ∧ Asc hi (a + 1) l
theorem Asc.le {hi : Nat} : ∀ {l : List lex_Token} {lo lo' : Nat}, lo' ≤ lo → Asc hi lo l → Asc hi lo' l
  | [], _, _, _, _ => trivial
  | t :: l, lo, lo', h, ⟨a, h1, h2, h3, h4⟩ => ⟨a, h1, by omega, h3, h4⟩
theorem Asc.mem {hi : Nat} : ∀ {l : List lex_Token} {lo : Nat}, Asc hi lo l → ∀ t ∈ l, 0 ≤ t.At ∧ t.At < (hi : Int)
  | t :: l, lo, ⟨a, h1, h2, h3, h4⟩, x, hx => by
    rcases List.mem_cons.1 hx with rfl | hx
    · omega
    · exact Asc.mem h4 x hx
theorem scanR_asc : ∀ (n : Nat) (r : List UInt8), r.length ≤ n → ∀ {p : Nat} {out l : List lex_Token}, out.length ≤ 200 → scanR r p out = .inl l → ∃ l2, l = out ++ l2 ∧ Asc (p + r.length) p l2 ∧ l.length ≤ 200
  | n, [], _, p, out, l, ho, h => by rw [scanR_nil] at h; cases h; exact ⟨[], by simp, trivial, ho⟩
  | 0, c :: t, hn, _, _, _, _, _ => by simp at hn
  | n + 1, c :: t, hn, p, out, l, hl, h => by
    simp only [List.length_cons, Nat.add_le_add_iff_right] at hn ⊢
    rw [scanR_cons] at h
    split at h
    · obtain ⟨l2, h1, h2, h3⟩ := scanR_asc n t hn hl h
      exact ⟨l2, h1, by rw [show p + (t.length + 1) = p + 1 + t.length by omega]; exact h2.le (by omega), h3⟩
    · split at h
      · cases h
      · rename_i hf
        split at h
        · cases h
        · rename_i k x v m ho
          have hm := oneR_m ho
          rw [one_known ho] at hf
          simp only [Bool.true_and, decide_eq_true_eq] at hf
          obtain ⟨l2, h1, h2, h3⟩ := scanR_asc n _ (by rw [List.length_drop]; omega) (by simp; omega) h
          rw [List.length_drop] at h2
          refine ⟨⟨k, (p : Int), x, v⟩ :: l2, by rw [h1]; simp, ⟨p, rfl, Nat.le_refl _, by omega, ?_⟩, h3⟩
          rw [show p + (t.length + 1) = p + m + (t.length - (m - 1)) by omega]
          exact h2.le (by omega)

theorem scan_app (d : UInt8) (hd : Dl d) (hb : blank d = true) (h32 : d.toNat < 32) (b : List UInt8) : ∀ (n : Nat) (r : List UInt8), r.length ≤ n → ∀ (p : Nat) (out : List lex_Token),
    (∀ l, scanR r p out = .inl l → scanR (r ++ d :: b) p out = scanR b (p + r.length + 1) l) ∧
    (∀ e q, scanR r p out = .inr (e, q) → e ≠ 3 → scanR (r ++ d :: b) p out = .inr (e, q)) ∧
    (∀ q, scanR r p out = .inr (3, q) → scanR (r ++ d :: b) p out = .inr (10, ((p + r.length : Nat) : Int)))
  | n, [], _, p, out => by
    refine ⟨fun l h => ?_, fun e q h _ => ?_, fun q h => ?_⟩
    · rw [scanR_nil] at h; cases h
      rw [List.nil_append, scanR_cons, if_pos hb]; rfl
    · rw [scanR_nil] at h; cases h
    · rw [scanR_nil] at h; cases h
  | 0, c :: t, hn, _, _ => by simp at hn
  | n + 1, c :: t, hn, p, out => by
    simp only [List.length_cons, Nat.add_le_add_iff_right] at hn
    rw [List.cons_append, scanR_cons, scanR_cons]
    by_cases h1 : blank c = true
    · simp only [h1, if_true]
      obtain ⟨q1, q2, q3⟩ := scan_app d hd hb h32 b n t hn (p + 1) out
      refine ⟨fun l h => ?_, q2, fun q h => ?_⟩
      · rw [q1 l h]; congr 1; simp only [List.length_cons]; omega
      · rw [q3 q h]; simp only [List.length_cons]; congr 2; omega
    simp only [h1, Bool.false_eq_true, if_false]
    by_cases h2 : (known c && decide (out.length = 200)) = true
    · simp only [h2, if_true]
      exact ⟨fun l h => (by cases h), fun e q h _ => h, fun q h => by cases h⟩
    simp only [h2, Bool.false_eq_true, if_false]
    obtain ⟨o1, o2, o3⟩ := one_app hd b c t
    simp only [List.cons_append] at o1 o2 o3
    cases ho : oneR (c :: t) with
    | inr f =>
      obtain ⟨e, o⟩ := f
      by_cases h3 : e = 3
      · subst h3
        rw [o3 o ho h32]
        refine ⟨fun l h => (by cases h), fun e q h he => ?_, fun q h => ?_⟩
        · cases h; exact absurd rfl he
        · simp only [List.length_cons]
      · rw [o2 e o ho h3]
        refine ⟨fun l h => (by cases h), fun e q h _ => h, fun q h => ?_⟩
        cases h; exact absurd rfl h3
    | inl f =>
      obtain ⟨k, x, v, m⟩ := f
      have hm := oneR_m ho
      rw [o1 _ ho]
      have e1 : (t ++ d :: b).drop (m - 1) = t.drop (m - 1) ++ d :: b := List.drop_append_of_le_length (by omega)
      dsimp only
      rw [e1]
      obtain ⟨q1, q2, q3⟩ := scan_app d hd hb h32 b n (t.drop (m - 1)) (by rw [List.length_drop]; omega) (p + m) (out ++ [⟨k, (p : Int), x, v⟩])
      rw [List.length_drop] at q1 q3
      refine ⟨fun l h => ?_, q2, fun q h => ?_⟩
      · rw [q1 l h]; congr 1; simp only [List.length_cons]; omega
      · rw [q3 q h]; simp only [List.length_cons]; congr 2; omega
def sh (q : Nat) (t : lex_Token) : lex_Token := ⟨t.Kind, t.At + (q : Int), t.Text, t.Val⟩
def shE (q : Nat) (x : List lex_Token) : List lex_Token ⊕ (Int × Int) → List lex_Token ⊕ (Int × Int)
  | .inl l => .inl (x ++ l.map (sh q))
  | .inr (e, a) => .inr (e, a + (q : Int))
theorem scan_shift (x : List lex_Token) (q : Nat) : ∀ (n : Nat) (r : List UInt8), r.length ≤ n → ∀ (p : Nat) (out : List lex_Token), x.length + out.length ≤ 200 →
    (∃ a, scanR r (p + q) (x ++ out.map (sh q)) = .inr (7, a)) ∨ scanR r (p + q) (x ++ out.map (sh q)) = shE q x (scanR r p out)
  | n, [], _, p, out, _ => by rw [scanR_nil, scanR_nil]; exact .inr rfl
  | 0, c :: t, hn, _, _, _ => by simp at hn
  | n + 1, c :: t, hn, p, out, hl => by
    simp only [List.length_cons, Nat.add_le_add_iff_right] at hn
    rw [scanR_cons, scanR_cons]
    by_cases h1 : blank c = true
    · simp only [h1, if_true]
      have := scan_shift x q n t hn (p + 1) out hl
      rwa [show p + 1 + q = p + q + 1 by omega] at this
    simp only [h1, Bool.false_eq_true, if_false]
    by_cases h2 : (known c && decide ((x ++ out.map (sh q)).length = 200)) = true
    · simp only [h2, if_true]
      exact .inl ⟨_, rfl⟩
    simp only [h2, Bool.false_eq_true, if_false]
    have h3 : ¬ (known c && decide (out.length = 200)) = true := by
      intro h
      simp only [Bool.and_eq_true, decide_eq_true_eq, List.length_append, List.length_map] at h h2
      exact h2 ⟨h.1, by omega⟩
    simp only [h3, Bool.false_eq_true, if_false]
    cases ho : oneR (c :: t) with
    | inr f =>
      obtain ⟨e, o⟩ := f
      right
      simp only [shE]
      congr 2
      omega
    | inl f =>
      obtain ⟨k, y, v, m⟩ := f
      dsimp only
      rw [one_known ho] at h2
      simp only [Bool.true_and, decide_eq_true_eq, List.length_append, List.length_map] at h2
      have := scan_shift x q n (t.drop (m - 1)) (by rw [List.length_drop]; omega) (p + m) (out ++ [⟨k, (p : Int), y, v⟩]) (by simp; omega)
      have e1 : x ++ (out ++ ([⟨k, (p : Int), y, v⟩] : List lex_Token)).map (sh q) = x ++ out.map (sh q) ++ [⟨k, ((p + q : Nat) : Int), y, v⟩] := by
        rw [List.map_append, ← List.append_assoc]
        rfl
      rw [e1, show p + m + q = p + q + m by omega] at this
      exact this
end Go.Proofs.YtmjmbhkohcdlpaaDoor.W
namespace Go.Proofs.YtmjmbhkohcdlpaaDoor.W
open Go
set_option linter.unusedSimpArgs false
set_option linter.unusedVariables false

def eqV (x y : value_Value) : Bool := (x.Kind == y.Kind) && ((x.N == y.N) && ((x.Bits == y.Bits) && (x.Text == y.Text)))
def eqT (x y : lex_Token) : Bool := (x.Kind == y.Kind) && ((x.Text == y.Text) && eqV x.Val y.Val)
def sameL : List lex_Token → List lex_Token → Bool
  | [], [] => true
  | x :: a, y :: b => eqT x y && sameL a b
  | _, _ => false
theorem eqV_iff {x y : value_Value} : eqV x y = true ↔ x = y := by
  cases x; cases y
  simp [eqV, Bool.and_eq_true]
theorem eqT_refl (x : lex_Token) : eqT x x = true := by simp [eqT, eqV]
theorem sameL_refl : ∀ l, sameL l l = true
  | [] => rfl
  | x :: l => by simp [sameL, eqT_refl, sameL_refl l]
theorem w_aw : W (fun N => s_law10_awake N) fun r => r = true := ⟨true, ⟨64, fun N hN => by
  simp only [s_law10_awake, Nat.ble_eq_true_of_le hN, cond_true]⟩, rfl⟩
theorem aw {ι : Type} [Lim ι] (N : ι → Nat) [Tends N] : W (fun i => (s_law10_awake (N i)).bind fun a => some a) (· = true) := wid.2 (w_aw.of N)
end Go.Proofs.YtmjmbhkohcdlpaaDoor.W
namespace Go.Proofs.YtmjmbhkohcdlpaaDoor.W
open Go
set_option linter.unusedSimpArgs false
set_option linter.unusedVariables false

theorem w_Same (a b : List lex_Token) (hl : a.length ≤ 700) : W (fun N => s_lex_Same N a b) (· = (decide (a.length = b.length) && sameL a b)) := by
  have e : ((a.length : Int) != (b.length : Int)) = !decide (a.length = b.length) := by
    by_cases h : a.length = b.length
    · simp [h]
    · simp [h]; omega
  simp only [s_lex_Same]
  refine wid.2 ?_
  simp only [s_slices_EqualFunc_lex_Token_v798, e, W.cond, W.ret]
  refine ⟨fun h => ?_, fun h => ?_⟩
  · have : decide (a.length = b.length) = false := by simpa using h
    rw [this]; rfl
  · have hab : a.length = b.length := by simpa using h
    rw [decide_eq_true hab, Bool.true_and]
    refine wr1 (l := a) (fun pre rest => sameL rest (b.drop pre.length)) [] a rfl rfl (by omega) ?_ ?_
    · intro F pre e rest hl h1 h2 h3 hn
      obtain ⟨f, r2, q1, q2, q3⟩ := drop_len hab hl
      rw [List.length_append, List.length_singleton, q2] at hn
      rw [q1]
      have he : ((e.Kind == f.Kind) && ((f.At == f.At) && ((e.Text == f.Text) && ((e.Val.Kind == f.Val.Kind) && ((e.Val.N == f.Val.N) && ((e.Val.Bits == f.Val.Bits) && (e.Val.Text == f.Val.Text))))))) = eqT e f := by
        rw [BEq.rfl, Bool.true_and]; rfl
      simp only [s_slices_EqualFunc_lex_Token_v798_1, s_lex_Same_L1, h1, h2, h3, q3, he, Option.bind_some, cond_true, W.cond, W.ret, gd_true, sameL]
      refine ⟨fun h => ?_, fun h => ?_⟩
      · have h : eqT e f = false := by simpa using h
        rw [h]; rfl
      · have h : eqT e f = true := by simpa using h
        rw [h, Bool.true_and]; exact hn
    · intro F h1
      have : b.drop a.length = [] := List.drop_eq_nil_of_le (by omega)
      rw [this]
      simp only [s_slices_EqualFunc_lex_Token_v798_1, h1, cond_false, W.ret, sameL]
end Go.Proofs.YtmjmbhkohcdlpaaDoor.W
namespace Go.Proofs.YtmjmbhkohcdlpaaDoor.W
open Go
set_option linter.unusedSimpArgs false
set_option linter.unusedVariables false

theorem hx_hexB {d : Nat} (h : d < 16) : hx (hexB d) = some d := by
  have : ∀ k : Fin 16, hx (hexB k.val) = some k.val := by decide +kernel
  exact this ⟨d, h⟩
theorem isD_notS : ∀ c : UInt8, isD c = true → isS c = false := byte_all (by decide +kernel)
theorem dig_toNat (m : Nat) : (UInt8.ofNat (48 + m % 10)).toNat = 48 + m % 10 := by simp; omega
theorem dig_D (m : Nat) : isD (UInt8.ofNat (48 + m % 10)) = true := isD_iff.2 (by rw [dig_toNat]; omega)
theorem dgF_D : ∀ (f m : Nat), ∀ c ∈ dgF f m, isD c = true
  | 0, m, c, h => by simp [dgF] at h
  | f + 1, m, c, h => by
    simp only [dgF, List.mem_append, List.mem_singleton] at h
    rcases h with h | rfl
    · split at h
      · simp at h
      · exact dgF_D f _ c h
    · exact dig_D m
theorem dgF_len : ∀ (f m : Nat), (dgF f m).length ≤ f
  | 0, m => by simp [dgF]
  | f + 1, m => by
    simp only [dgF, List.length_append, List.length_singleton]
    split
    · simp
    · have := dgF_len f (m / 10); omega
theorem dgF_head : ∀ (f m : Nat), 1 ≤ m → m < 10 ^ f → ∃ c, (dgF f m).head? = some c ∧ c ≠ 48
  | 0, m, h1, h2 => by simp at h2; omega
  | f + 1, m, h1, h2 => by
    simp only [dgF]
    split
    · refine ⟨UInt8.ofNat (48 + m % 10), rfl, fun h => ?_⟩
      have := dig_toNat m
      rw [h] at this
      simp at this; omega
    · obtain ⟨c, h3, h4⟩ := dgF_head f (m / 10) (by omega) (by rw [Nat.pow_succ] at h2; omega)
      refine ⟨c, ?_, h4⟩
      cases hd : dgF f (m / 10) with
      | nil => rw [hd] at h3; cases h3
      | cons x l => rw [hd] at h3; exact h3
theorem numv_snoc : ∀ (l : List UInt8) (V : Nat) (c : UInt8), numv V (l ++ [c]) = (numv V l).bind fun W => if (4611686018427387904 - (c.toNat - 48)) / 10 < W then none else some (10 * W + (c.toNat - 48))
  | [], V, c => by simp [numv]
  | x :: l, V, c => by
    simp only [List.cons_append, numv]
    split
    · rfl
    · exact numv_snoc l _ c
theorem numv_dg : ∀ (f m : Nat), 1 ≤ f → m < 10 ^ f → m ≤ 4611686018427387904 → numv 0 (dgF f m) = some m
  | 0, m, h, _, _ => by omega
  | f + 1, m, _, h2, h3 => by
    simp only [dgF]
    rw [numv_snoc, dig_toNat]
    split
    · simp only [numv, Option.bind_some]
      rw [if_neg (by omega)]; congr 1; omega
    · have hf : 1 ≤ f := by
        rcases Nat.eq_zero_or_pos f with h | h
        · subst h; simp at h2; omega
        · exact h
      rw [numv_dg f (m / 10) hf (by rw [Nat.pow_succ] at h2; omega) (by omega), Option.bind_some, if_neg (by omega)]
      congr 1; omega
theorem tw_all {α : Type} {p : α → Bool} : ∀ {l : List α}, (∀ c ∈ l, p c = true) → l.takeWhile p = l
  | [], _ => rfl
  | x :: l, h => by rw [List.takeWhile_cons, if_pos (h x (by simp)), tw_all fun c hc => h c (by simp [hc])]
theorem tw_mem {α : Type} {p : α → Bool} : ∀ {l : List α} {c : α}, c ∈ l.takeWhile p → p c = true
  | [], c, h => by simp at h
  | x :: l, c, h => by
    rw [List.takeWhile_cons] at h
    split at h
    · rename_i hx
      rcases List.mem_cons.1 h with rfl | h
      · exact hx
      · exact tw_mem h
    · simp at h
theorem big10 : (4611686018427387904 : Nat) < 10 ^ 20 := by decide
theorem one_dg (m : Nat) (hm : m ≤ 4611686018427387904) : oneR (dgF 20 m) = .inl (3, [], ⟨1, (m : Int), 0, []⟩, (dgF 20 m).length) := by
  have hall := dgF_D 20 m
  have hn := numv_dg 20 m (by omega) (by have := big10; omega) hm
  have hh : ¬ (1 < (dgF 20 m).length ∧ (dgF 20 m).head? = some 48) := by
    rintro ⟨h1, h2⟩
    by_cases h0 : m = 0
    · subst h0
      exact absurd h1 (by decide)
    · obtain ⟨c, h3, h4⟩ := dgF_head 20 m (by omega) (by have := big10; omega)
      rw [h3] at h2; cases h2; exact h4 rfl
  cases hd : dgF 20 m with
  | nil => rw [hd] at hn; simp only [dgF] at hd; simp at hd
  | cons c t =>
    rw [hd] at hall hn hh
    have hc := hall c (by simp)
    simp only [oneR, isD_notS c hc, hc, Bool.false_eq_true, if_false, if_true]
    rw [tw_all hall, numR, if_neg hh, hn]
theorem hxS_len' (u : Nat) : ∀ k, (hxS k u).length = k
  | 0 => rfl
  | k + 1 => by simp [hxS, hxS_len' u k]
theorem hexv_hx (u : Nat) : ∀ (k V : Nat), hexv V (hxS k u) = some (V * 16 ^ k + u % 16 ^ k)
  | 0, V => by simp [hxS, hexv, Nat.mod_one]
  | k + 1, V => by
    rw [hxS, hexv, hx_hexB (Nat.mod_lt _ (by decide))]
    dsimp only
    rw [hexv_hx u k, Nat.pow_succ, Nat.mod_mul, Nat.add_mul, ← Nat.mul_assoc, Nat.mul_comm (16 ^ k) (u / 16 ^ k % 16)]
    congr 1
    rw [Nat.mul_right_comm V, Nat.mul_comm 16 V, Nat.mul_right_comm V 16]
    omega
theorem one_bits (u : Nat) (hu : u < 18446744073709551616) (hc : cln (u : Int) = (u : Int)) : oneR (bitS u) = .inl (3, [], ⟨3, 0, (u : Int), []⟩, 17) := by
  have e : oneR (bitS u) = dblR (hxS 16 u) := rfl
  have h16 := hxS_len' u 16
  have ht : (hxS 16 u).take 16 = hxS 16 u := List.take_of_length_le (by omega)
  have hv := hexv_hx u 16 0
  rw [Nat.zero_mul, Nat.zero_add, Nat.mod_eq_of_lt (show u < 16 ^ 16 from hu)] at hv
  rw [e, dblR, if_neg (by omega), ht, hv]
  dsimp only
  rw [if_pos hc]
theorem esc_back (c : UInt8) : UInt8.ofNat (16 * (c.toNat / 16) + c.toNat % 16) = c := by
  rw [Nat.div_add_mod]; simp
theorem quo_tx : ∀ (b : List UInt8) (off : Nat) (acc : List UInt8), acc.length + b.length ≤ 24 → quoR (b.flatMap txC ++ [39]) off acc = .inl (3, [], ⟨4, 0, 0, acc ++ b⟩, off + (b.flatMap txC).length + 1)
  | [], off, acc, h => by
    rw [List.flatMap_nil, List.nil_append, quoR_cons, if_neg (by decide), if_neg (by decide), if_pos rfl]
    dsimp only
    rw [if_neg (by simp at h; omega)]
    simp
  | c :: b, off, acc, h => by
    simp only [List.length_cons] at h
    rw [List.flatMap_cons, List.append_assoc]
    have hlt : ∀ n : Nat, n < 256 → (c < UInt8.ofNat n ↔ c.toNat < n) := fun n hn => by rw [UInt8.lt_iff_toNat_lt]; simp [Nat.mod_eq_of_lt hn]
    have hgt : (126 < c ↔ 126 < c.toNat) := by rw [UInt8.lt_iff_toNat_lt]; rfl
    have h32 : (c < 32 ↔ c.toNat < 32) := by rw [UInt8.lt_iff_toNat_lt]; rfl
    by_cases h39 : c = 39
    · subst h39
      have e : txC 39 = [39, 39] := rfl
      rw [e]
      show quoR (39 :: 39 :: (b.flatMap txC ++ [39])) off acc = _
      rw [quoR_cons, if_neg (by decide), if_neg (by decide), if_pos rfl]
      dsimp only
      rw [if_pos rfl, quo_tx b (off + 2) (acc ++ [39]) (by simp; omega)]
      simp only [List.append_assoc, List.singleton_append, List.length_append, List.length_cons, List.length_nil]
      congr 4; omega
    · by_cases hq : c < 32 ∨ 126 < c ∨ c = 92
      · have e : txC c = [92, hexB (c.toNat / 16), hexB (c.toNat % 16)] := by rw [txC, if_neg h39, if_pos hq]
        have h256 : c.toNat < 256 := c.toNat_lt
        rw [e]
        show quoR (92 :: hexB (c.toNat / 16) :: hexB (c.toNat % 16) :: (b.flatMap txC ++ [39])) off acc = _
        rw [quoR_cons, if_neg (by decide), if_pos rfl]
        dsimp only
        rw [hx_hexB (by omega), hx_hexB (Nat.mod_lt _ (by decide))]
        dsimp only
        rw [esc_back, quo_tx b (off + 3) (acc ++ [c]) (by simp; omega)]
        simp only [List.append_assoc, List.singleton_append, List.length_append, List.length_cons, List.length_nil]
        congr 4; omega
      · have e : txC c = [c] := by rw [txC, if_neg h39, if_neg hq]
        simp only [not_or] at hq
        rw [e]
        show quoR (c :: (b.flatMap txC ++ [39])) off acc = _
        rw [quoR_cons, if_neg (by rw [h32, hgt] at hq; omega), if_neg hq.2.2, if_neg h39, quo_tx b (off + 1) (acc ++ [c]) (by simp; omega)]
        simp only [List.append_assoc, List.singleton_append, List.length_append, List.length_cons, List.length_nil]
        congr 4; omega
theorem one_text (b : List UInt8) (h : b.length ≤ 24) : oneR (txS b) = .inl (3, [], ⟨4, 0, 0, b⟩, (txS b).length) := by
  have e : oneR (txS b) = quoR (b.flatMap txC ++ [39]) 1 [] := rfl
  rw [e, quo_tx b 1 [] (by simpa using h)]
  simp only [List.nil_append, txS, List.length_append, List.length_cons, List.length_nil] <;> (congr 4; omega)

def litS (v : value_Value) : List UInt8 := if vchk v ≠ 0 then [] else if v.Kind = 1 then whS v.N else if v.Kind = 2 then (if v.N = 0 then [102, 97, 108, 115, 101] else [116, 114, 117, 101]) else if v.Kind = 3 then bitS v.Bits.toNat else txS v.Text
theorem vchk_ok {v : value_Value} (h : vchk v = 0) : (∃ n : Int, v = ⟨1, n, 0, []⟩ ∧ -4611686018427387904 ≤ n ∧ n ≤ 4611686018427387904) ∨ v = ⟨2, 0, 0, []⟩ ∨ v = ⟨2, 1, 0, []⟩ ∨ (∃ u : Int, v = ⟨3, 0, u, []⟩ ∧ cln u = u) ∨ ∃ b : List UInt8, v = ⟨4, 0, 0, b⟩ ∧ b.length ≤ 24 := by
  obtain ⟨k, n, u, b⟩ := v
  unfold vchk at h
  dsimp only at h
  split at h
  · rename_i hk
    split at h
    · cases h
    · split at h
      · rename_i h1 h2
        obtain ⟨rfl, rfl⟩ := h2
        subst hk
        exact .inl ⟨n, rfl, by omega, by omega⟩
      · cases h
  · split at h
    · rename_i hk
      split at h
      · cases h
      · split at h
        · rename_i h1 h2
          obtain ⟨rfl, rfl⟩ := h2
          subst hk
          rcases (show n = 0 ∨ n = 1 by omega) with rfl | rfl
          · exact .inr (.inl rfl)
          · exact .inr (.inr (.inl rfl))
        · cases h
    · split at h
      · rename_i hk
        split at h
        · cases h
        · split at h
          · rename_i h1 h2
            obtain ⟨rfl, rfl⟩ := h2
            subst hk
            exact .inr (.inr (.inr (.inl ⟨u, rfl, by simpa using h1⟩)))
          · cases h
      · split at h
        · rename_i hk
          split at h
          · cases h
          · split at h
            · rename_i h1 h2
              obtain ⟨rfl, rfl⟩ := h2
              subst hk
              exact .inr (.inr (.inr (.inr ⟨b, rfl, by omega⟩)))
            · cases h
        · cases h
theorem one_lit {v : value_Value} (h : vchk v = 0) (h0 : 0 ≤ v.Bits) (h1 : v.Bits < 18446744073709551616) (hn : ¬ (v.Kind = 1 ∧ v.N < 0)) : oneR (litS v) = .inl (3, [], v, (litS v).length) := by
  have e : ∀ (a b : List UInt8), (if vchk v ≠ 0 then a else b) = b := fun a b => if_neg (by simp [h])
  have hl : litS v = if v.Kind = 1 then whS v.N else if v.Kind = 2 then (if v.N = 0 then [102, 97, 108, 115, 101] else [116, 114, 117, 101]) else if v.Kind = 3 then bitS v.Bits.toNat else txS v.Text := e _ _
  rw [hl]
  rcases vchk_ok h with ⟨n, rfl, q1, q2⟩ | rfl | rfl | ⟨u, rfl, q1⟩ | ⟨b, rfl, q1⟩
  · simp only [true_and, Int.not_lt] at hn
    obtain ⟨m, rfl⟩ := Int.eq_ofNat_of_zero_le hn
    have e2 : whS (m : Int) = dgF 20 m := by rw [whS, if_neg (by omega)]; rfl
    simp only [if_true, e2]
    exact one_dg m (by omega)
  · rfl
  · rfl
  · dsimp only at h0 h1
    obtain ⟨m, rfl⟩ := Int.eq_ofNat_of_zero_le h0
    exact one_bits m (by omega) q1
  · exact one_text b q1
theorem litS_len (v : value_Value) : (litS v).length ≤ 100 := by
  unfold litS
  split
  · simp
  · rename_i h
    have h : vchk v = 0 := by simpa using h
    have hd : ∀ n : Int, (whS n).length ≤ 21 := fun n => by
      have := dgF_len 20 n.natAbs
      simp only [whS, List.length_append]
      split <;> simp <;> omega
    have ht : ∀ b : List UInt8, (b.flatMap txC).length ≤ 3 * b.length := fun b => by
      induction b with
      | nil => simp
      | cons c b ih =>
        have : (txC c).length ≤ 3 := by
          unfold txC
          split
          · simp
          · split <;> simp
        simp only [List.flatMap_cons, List.length_append, List.length_cons]; omega
    rcases vchk_ok h with ⟨n, rfl, q1, q2⟩ | rfl | rfl | ⟨u, rfl, q1⟩ | ⟨b, rfl, q1⟩
    · have := hd n; simp; omega
    · decide
    · decide
    · have := hxS_len' u.toNat 16
      show (bitS u.toNat).length ≤ 100
      simp [bitS]; omega
    · have := ht b
      show (txS b).length ≤ 100
      simp only [txS, List.length_append, List.length_cons, List.length_nil]; omega
theorem w_Literal (v : value_Value) (h0 : 0 ≤ v.Bits) (h1 : v.Bits < 18446744073709551616) : W (fun N => s_lex_Literal N v) (· = litS v) := by
  simp only [s_lex_Literal, e_value_Check, Option.bind_some, W.cond, W.ret]
  refine ⟨fun h => by rw [litS, if_pos (by simpa using h)], fun h => ?_⟩
  have h : vchk v = 0 := by simpa using h
  have e : ∀ (a b : List UInt8), (if vchk v ≠ 0 then a else b) = b := fun a b => if_neg (by simp [h])
  have hl : litS v = if v.Kind = 1 then whS v.N else if v.Kind = 2 then (if v.N = 0 then [102, 97, 108, 115, 101] else [116, 114, 117, 101]) else if v.Kind = 3 then bitS v.Bits.toNat else txS v.Text := e _ _
  rw [hl]
  rcases vchk_ok h with ⟨n, rfl, q1, q2⟩ | rfl | rfl | ⟨u, rfl, q1⟩ | ⟨b, rfl, q1⟩
  · simp only [s_lex_whole, show leB (-4611686018427387904) n = true from leB_iff.2 q1, show leB n 4611686018427387904 = true from leB_iff.2 q2, Bool.and_self, gd_true, Option.bind_some]
    exact ⟨fun _ => W.ret.2 rfl, fun h => absurd h (by decide)⟩
  · exact ⟨fun h => absurd h (by decide), fun _ => ⟨fun _ => ⟨fun _ => rfl, fun h => absurd h (by decide)⟩, fun h => absurd h (by decide)⟩⟩
  · exact ⟨fun h => absurd h (by decide), fun _ => ⟨fun _ => ⟨fun h => absurd h (by decide), fun _ => rfl⟩, fun h => absurd h (by decide)⟩⟩
  · dsimp only at h0 h1
    simp only [s_lex_bits, show leB 0 u = true from leB_iff.2 h0, show ltB u 18446744073709551616 = true from ltB_iff.2 h1, Bool.and_self, gd_true, Option.bind_some]
    exact ⟨fun h => absurd h (by decide), fun _ => ⟨fun h => absurd h (by decide), fun _ => ⟨fun _ => W.ret.2 rfl, fun h => absurd h (by decide)⟩⟩⟩
  · simp only [s_lex_text, show Nat.ble b.length 10000000000 = true from Nat.ble_eq_true_of_le (by omega), gd_true, Option.bind_some]
    exact ⟨fun h => absurd h (by decide), fun _ => ⟨fun h => absurd h (by decide), fun _ => ⟨fun h => absurd h (by decide), fun _ => W.ret.2 rfl⟩⟩⟩
end Go.Proofs.YtmjmbhkohcdlpaaDoor.W
namespace Go.Proofs.YtmjmbhkohcdlpaaDoor.W
open Go
set_option linter.unusedSimpArgs false
set_option linter.unusedVariables false

/-- A token's text. -/
def wk (k : Int) (x : List UInt8) (v : value_Value) : List UInt8 := if k = 1 ∨ k = 2 ∨ k = 4 then x else if k = 3 then litS v else []
def wt (t : lex_Token) : List UInt8 := wk t.Kind t.Text t.Val
theorem w_Word (t : lex_Token) (h0 : 0 ≤ t.Val.Bits) (h1 : t.Val.Bits < 18446744073709551616) : W (fun N => s_lex_Word N t) (· = wt t) := by
  have hlit := w_Literal t.Val h0 h1
  have lit : ∀ {ι : Type} [Lim ι] (N : ι → Nat) [Tends N], t.Kind = 3 → W (fun i => (s_lex_Literal (N i) t.Val).bind fun l => some l) (· = wt t) := fun {ι} _ N _ hk => by
    refine W.call hlit ?_
    rintro _ rfl
    rw [wt, wk, if_neg (by omega), if_pos hk]; exact W.ret.2 rfl
  have txt : ∀ k : Int, (t.Kind == k) = true → (k = 1 ∨ k = 2 ∨ k = 4) → t.Text = wt t := fun k h hk => by
    have h : t.Kind = k := by simpa using h
    rw [wt, wk, if_pos (by omega)]
  simp only [s_lex_Word, W.cond, W.ret, beq_iff_eq, beq_eq_false_iff_ne, ne_eq]
  refine ⟨fun h => ⟨fun _ => txt 1 (by simpa using h) (by omega), fun h2 => absurd h h2⟩, fun h1 => ⟨fun h => ⟨fun _ => txt 2 (by simpa using h) (by omega), fun h2 => absurd h h2⟩, fun h2 => ⟨fun h => txt 4 (by simpa using h) (by omega), fun h4 => ⟨fun h => lit _ h, fun h3 => ?_⟩⟩⟩⟩
  rw [wt, wk, if_neg (by omega), if_neg h3]
/-- A token that is cut out of its own text. -/
def TOK (t : lex_Token) : Prop := oneR (wt t) = .inl (t.Kind, t.Text, t.Val, (wt t).length) ∧ 0 ≤ t.Val.Bits ∧ t.Val.Bits < 18446744073709551616
theorem numv_le : ∀ (l : List UInt8) (V m : Nat), V ≤ 4611686018427387904 → numv V l = some m → m ≤ 4611686018427387904
  | [], V, m, h, hq => by rw [numv] at hq; cases hq; exact h
  | c :: l, V, m, h, hq => by
    rw [numv] at hq
    split at hq
    · cases hq
    · have : c.toNat < 256 := c.toNat_lt
      exact numv_le l _ m (by omega) hq
theorem hexv_lt : ∀ (l : List UInt8) (V u : Nat), hexv V l = some u → u < (V + 1) * 16 ^ l.length
  | [], V, u, hq => by rw [hexv] at hq; cases hq; simp
  | c :: l, V, u, hq => by
    rw [hexv] at hq
    split at hq
    · cases hq
    · rename_i d hd
      have h1 := hexv_lt l _ u hq
      have h2 := hx_lt hd
      rw [List.length_cons, Nat.pow_succ]
      have h3 : (16 * V + d + 1) * 16 ^ l.length ≤ ((V + 1) * 16) * 16 ^ l.length := Nat.mul_le_mul_right _ (by omega)
      rw [Nat.mul_assoc] at h3
      rw [Nat.mul_comm (16 ^ l.length) 16]
      omega
theorem quoR_val : ∀ (n : Nat) (t : List UInt8), t.length ≤ n → ∀ {off : Nat} {b : List UInt8} {k : Int} {x : List UInt8} {v : value_Value} {m : Nat}, quoR t off b = .inl (k, x, v, m) → k = 3 ∧ x = [] ∧ ∃ c : List UInt8, v = ⟨4, 0, 0, c⟩ ∧ c.length ≤ 24
  | n, [], _, off, b, k, x, v, m, h => by rw [quoR_nil] at h; cases h
  | 0, c :: t, hn, _, _, _, _, _, _, _ => by simp at hn
  | n + 1, c :: t, hn, off, b, k, x, v, m, h => by
    simp only [List.length_cons, Nat.add_le_add_iff_right] at hn
    rw [quoR_cons] at h
    split at h
    · cases h
    · split at h
      · split at h
        · split at h
          · exact quoR_val n _ (by simp at hn; omega) h
          · cases h
        · cases h
      · split at h
        · split at h
          · split at h
            · exact quoR_val n _ (by simp at hn; omega) h
            · split at h
              · cases h
              · cases h; exact ⟨rfl, rfl, _, rfl, by omega⟩
          · split at h
            · cases h
            · cases h; exact ⟨rfl, rfl, _, rfl, by omega⟩
        · exact quoR_val n _ hn h
theorem tok_lit {p : Int} {v : value_Value} (h : vchk v = 0) (h0 : 0 ≤ v.Bits) (h1 : v.Bits < 18446744073709551616) (hn : ¬ (v.Kind = 1 ∧ v.N < 0)) : TOK ⟨3, p, [], v⟩ :=
  ⟨one_lit h h0 h1 hn, h0, h1⟩
theorem vchk_int {n : Int} (h1 : -4611686018427387904 ≤ n) (h2 : n ≤ 4611686018427387904) : vchk ⟨1, n, 0, []⟩ = 0 := by
  simp only [vchk, if_true]
  rw [if_neg (by omega), if_pos ⟨trivial, trivial⟩]
theorem vchk_real {u : Int} (h : cln u = u) : vchk ⟨3, 0, u, []⟩ = 0 := by
  simp only [vchk, h, ne_eq, not_true, if_false, and_self, if_true]; rfl
theorem vchk_text {b : List UInt8} (h : b.length ≤ 24) : vchk ⟨4, 0, 0, b⟩ = 0 := by
  have : ¬ 24 < b.length := by omega
  simp only [vchk, this, if_false, and_self, if_true]; rfl
theorem one_tok {r : List UInt8} {k : Int} {x : List UInt8} {v : value_Value} {m : Nat} (p : Int) (h : oneR r = .inl (k, x, v, m)) : TOK ⟨k, p, x, v⟩ := by
  cases r with
  | nil => cases h
  | cons c t =>
    simp only [oneR] at h
    split at h
    · rename_i hs
      have hm : ∀ d ∈ (c :: t).takeWhile isT, isT d = true := fun d hd => tw_mem hd
      have e : (c :: t).takeWhile isT = c :: t.takeWhile isT := by rw [List.takeWhile_cons, if_pos (by simp [isT, hs])]
      rw [e] at h hm
      generalize t.takeWhile isT = w at *
      have h' := h
      unfold wordR at h
      split at h
      · cases h; exact tok_lit (by decide) (by decide) (by decide) (by decide)
      · split at h
        · cases h; exact tok_lit (by decide) (by decide) (by decide) (by decide)
        · split at h
          · cases h
            refine ⟨?_, by show (0 : Int) ≤ 0; omega, by show (0 : Int) < _; omega⟩
            show oneR (c :: w) = _
            simp only [oneR, hs, if_true]
            rw [tw_all hm, h']
            rfl
          · split at h
            · cases h
            · cases h
              refine ⟨?_, by show (0 : Int) ≤ 0; omega, by show (0 : Int) < _; omega⟩
              show oneR (c :: w) = _
              simp only [oneR, hs, if_true]
              rw [tw_all hm, h']
              rfl
    · split at h
      · unfold numR at h
        split at h
        · cases h
        · split at h
          · cases h
          · rename_i V hv
            have := numv_le _ _ _ (by omega) hv
            cases h
            exact tok_lit (vchk_int (by omega) (by omega)) (by show (0 : Int) ≤ 0; omega) (by show (0 : Int) < _; omega) (by show ¬ (_ ∧ (V : Int) < 0); omega)
      · split at h
        · unfold dblR at h
          split at h
          · cases h
          · split at h
            · cases h
            · rename_i h16 u hu
              have hlt := hexv_lt _ _ _ hu
              rw [List.length_take, show min 16 t.length = 16 by omega] at hlt
              have hlt : u < 18446744073709551616 := by simpa using hlt
              split at h
              · rename_i hc
                cases h
                exact tok_lit (vchk_real hc) (by show (0 : Int) ≤ (u : Int); omega) (by show (u : Int) < _; omega) (by show ¬ ((3 : Int) = 1 ∧ _); omega)
              · cases h
        · split at h
          · obtain ⟨rfl, rfl, b, rfl, hb⟩ := quoR_val _ t (Nat.le_refl _) h
            exact tok_lit (vchk_text hb) (by show (0 : Int) ≤ 0; omega) (by show (0 : Int) < _; omega) (by show ¬ ((4 : Int) = 1 ∧ _); omega)
          · split at h
            · rename_i h1 h2 h3 h4 hg
              rw [signR_eq] at h
              cases h
              refine ⟨?_, by show (0 : Int) ≤ 0; omega, by show (0 : Int) < _; omega⟩
              show oneR (sigR c t) = .inl (4, sigR c t, zv, (sigR c t).length)
              by_cases hs : isC c ∧ t.head? = some 61
              · have e : sigR c t = [c, 61] := by rw [sigR, if_pos hs]
                rw [e]
                simp only [oneR, h1, h2, h3, h4, hg, if_true, Bool.false_eq_true, if_false]
                rw [signR, if_pos ⟨hs.1, rfl⟩]; rfl
              · have e : sigR c t = [c] := by rw [sigR, if_neg hs]
                rw [e]
                simp only [oneR, h1, h2, h3, h4, hg, if_true, Bool.false_eq_true, if_false]
                rw [signR, if_neg (by simp)]; rfl
            · cases h
theorem scanR_tok : ∀ (n : Nat) (r : List UInt8), r.length ≤ n → ∀ {p : Nat} {out l : List lex_Token}, (∀ t ∈ out, TOK t) → scanR r p out = .inl l → ∀ t ∈ l, TOK t
  | n, [], _, p, out, l, ho, h => by rw [scanR_nil] at h; cases h; exact ho
  | 0, c :: t, hn, _, _, _, _, _ => by simp at hn
  | n + 1, c :: t, hn, p, out, l, hl, h => by
    simp only [List.length_cons, Nat.add_le_add_iff_right] at hn
    rw [scanR_cons] at h
    split at h
    · exact scanR_tok n t hn hl h
    · split at h
      · cases h
      · split at h
        · cases h
        · rename_i k x v m ho
          refine scanR_tok n _ (by rw [List.length_drop]; omega) (fun t ht => ?_) h
          rcases List.mem_append.1 ht with ht | ht
          · exact hl t ht
          · rw [List.mem_singleton.1 ht]; exact one_tok _ ho
def jn : List (List UInt8) → List UInt8
  | [] => []
  | [w] => w
  | w :: v :: l => w ++ 32 :: jn (v :: l)
theorem jn_eq : ∀ l : List (List UInt8), List.intercalate [32] l = jn l
  | [] => rfl
  | [w] => by simp [jn, List.intercalate, List.intersperse]
  | w :: v :: l => by
    have := jn_eq (v :: l)
    simp only [jn, List.intercalate, List.intersperse] at this ⊢
    rw [← this]
    simp
theorem jn_len : ∀ l : List (List UInt8), (∀ w ∈ l, w.length ≤ 1000) → (jn l).length ≤ 1001 * l.length
  | [], _ => by simp [jn]
  | [w], h => by have := h w (by simp); simp [jn]; omega
  | w :: v :: l, h => by
    have h1 := h w (by simp)
    have h2 := jn_len (v :: l) fun x hx => h x (by simp at hx ⊢; right; exact hx)
    simp only [jn, List.length_append, List.length_cons] at h2 ⊢; omega
theorem w_Print (l : List lex_Token) (hl : l.length ≤ 700) (hw : ∀ t ∈ l, (wt t).length ≤ 1000 ∧ 0 ≤ t.Val.Bits ∧ t.Val.Bits < 18446744073709551616) : W (fun N => s_lex_Print N l) (· = jn (l.map wt)) := by
  simp only [s_lex_Print]
  refine wf2a (l := l) (fun pre ys => ys = pre.map wt) [] rfl rfl (by omega) rfl ?_ ?_
  · rintro F pre e rest ys hl' h1 h2 h3 rfl hn
    obtain ⟨_, q1, q2⟩ := hw e (by rw [hl']; simp)
    simp only [s_lex_Print_1, h1, h2, h3, Option.bind_some, cond_true]
    refine W.call (w_Word e q1 q2) ?_
    rintro _ rfl
    simp only [W.gd, true_and]
    exact ⟨Nat.ble_eq_true_of_le (by rw [hl'] at hl; simp at hl ⊢; omega), hn _ (by simp)⟩
  · rintro F ys h1 rfl
    have hj := jn_len (l.map wt) (fun w hm => by
      obtain ⟨t, ht, rfl⟩ := List.mem_map.1 hm
      exact (hw t ht).1)
    rw [List.length_map] at hj
    simp only [s_lex_Print_1, h1, cond_false, s_strings_Join, jn_eq]
    rw [Nat.ble_eq_true_of_le (show (jn (l.map wt)).length ≤ 140737488355328 by omega), Nat.ble_eq_true_of_le (show (l.map wt).length ≤ 140737488355328 by rw [List.length_map]; omega)]
    simp only [Bool.and_self, gd_true, Option.bind_some]
    exact W.ret.2 rfl
theorem scan_jn : ∀ (l : List lex_Token) (p : Nat) (out : List lex_Token), (∀ t ∈ l, TOK t) → out.length + l.length ≤ 200 →
    ∃ m, scanR (jn (l.map wt)) p out = .inl (out ++ m) ∧ sameL l m = true ∧ m.length = l.length ∧ m.map wt = l.map wt
  | [], p, out, _, _ => ⟨[], by rw [show jn (List.map wt []) = [] from rfl, scanR_nil, List.append_nil], rfl, rfl, rfl⟩
  | t :: l, p, out, hT, hl => by
    obtain ⟨h1, b0, b1⟩ := hT t (by simp)
    simp only [List.length_cons] at hl
    have same : ∀ q m, sameL l m = true → sameL (t :: l) ((⟨t.Kind, q, t.Text, t.Val⟩ : lex_Token) :: m) = true := fun q m h => by
      simp [sameL, eqT, eqV, h]
    cases hw : wt t with
    | nil => rw [hw] at h1; cases h1
    | cons c w =>
      rw [hw] at h1
      have hk := one_known h1
      have hb : blank c = false := by
        cases hb : blank c with
        | false => rfl
        | true => rw [blank_known c hb] at hk; cases hk
      have hf : (known c && decide (out.length = 200)) = false := by
        rw [decide_eq_false (by omega), Bool.and_false]
      cases l with
      | nil =>
        refine ⟨[⟨t.Kind, (p : Int), t.Text, t.Val⟩], ?_, same _ [] rfl, rfl, rfl⟩
        show scanR (wt t) p out = _
        rw [hw, scanR_cons, hb, hf, h1]
        simp only [Bool.false_eq_true, if_false]
        rw [show w.drop ((c :: w).length - 1) = [] by simp, scanR_nil]
      | cons t2 l =>
        obtain ⟨m, q1, q2, q3, q4⟩ := scan_jn (t2 :: l) (p + (w.length + 1) + 1) (out ++ [⟨t.Kind, (p : Int), t.Text, t.Val⟩]) (fun x hx => hT x (by simp at hx ⊢; right; exact hx)) (by simp at hl ⊢; omega)
        refine ⟨⟨t.Kind, (p : Int), t.Text, t.Val⟩ :: m, ?_, same _ m q2, by simp [q3], by rw [List.map_cons, q4]; rfl⟩
        show scanR (wt t ++ 32 :: jn ((t2 :: l).map wt)) p out = _
        have h2 := (one_app dl32 (jn ((t2 :: l).map wt)) c w).1 _ h1
        rw [hw]
        rw [List.cons_append] at h2 ⊢
        rw [scanR_cons, hb, hf, h2]
        simp only [Bool.false_eq_true, if_false, List.length_cons, Nat.add_sub_cancel]
        rw [show (w ++ 32 :: jn ((t2 :: l).map wt)).drop w.length = 32 :: jn ((t2 :: l).map wt) by simp, scanR_cons, if_pos (by decide), q1]
        simp
end Go.Proofs.YtmjmbhkohcdlpaaDoor.W
namespace Go.Proofs.YtmjmbhkohcdlpaaDoor.W
open Go
set_option linter.unusedSimpArgs false
set_option linter.unusedVariables false

theorem dig1 {k : Nat} (h : k < 10) : List.drop (Int.toNat (k : Int)) (List.take (Int.toNat ((k : Int) + 1)) ([48, 49, 50, 51, 52, 53, 54, 55, 56, 57] : List UInt8)) = [UInt8.ofNat (48 + k)] := by
  have : ∀ k : Fin 10, List.drop (Int.toNat (k.val : Int)) (List.take (Int.toNat ((k.val : Int) + 1)) ([48, 49, 50, 51, 52, 53, 54, 55, 56, 57] : List UInt8)) = [UInt8.ofNat (48 + k.val)] := by decide
  exact this ⟨k, h⟩
theorem hex1 {k : Nat} (h : k < 16) : List.drop (Int.toNat (k : Int)) (List.take (Int.toNat ((k : Int) + 1)) ([48, 49, 50, 51, 52, 53, 54, 55, 56, 57, 97, 98, 99, 100, 101, 102] : List UInt8)) = [hexB k] := by
  have : ∀ k : Fin 16, List.drop (Int.toNat (k.val : Int)) (List.take (Int.toNat ((k.val : Int) + 1)) ([48, 49, 50, 51, 52, 53, 54, 55, 56, 57, 97, 98, 99, 100, 101, 102] : List UInt8)) = [hexB k.val] := by decide
  exact this ⟨k, h⟩
theorem tm10 (m : Nat) : Int.tmod (m : Int) 10 = ((m % 10 : Nat) : Int) := rfl
theorem tm16 (m : Nat) : Int.tmod (m : Int) 16 = ((m % 16 : Nat) : Int) := rfl
theorem td10 (m : Nat) (h : m ≤ 4611686018427387904) : IntKind.i64.wrap (Int.tdiv (m : Int) 10) = ((m / 10 : Nat) : Int) := by
  rw [show Int.tdiv (m : Int) 10 = ((m / 10 : Nat) : Int) from rfl, IntKind.wrap_i64]; omega
theorem td16 (m : Nat) (h : m < 18446744073709551616) : IntKind.u64.wrap (Int.tdiv (m : Int) 16) = ((m / 16 : Nat) : Int) := by
  rw [show Int.tdiv (m : Int) 16 = ((m / 16 : Nat) : Int) from rfl, IntKind.wrap_u64]; omega
theorem w_decimal (m : Nat) (hm : m ≤ 4611686018427387904) : W (fun N => s_ref10_decimal N (m : Int)) (· = dgF 20 m) := by
  have h10 : m % 10 < 10 := Nat.mod_lt _ (by decide)
  simp only [s_ref10_decimal, tm10, td10 m hm, dig1 h10, W.gd, i64b_eq, leB_iff]
  refine ⟨by omega, by omega, by omega, by omega, ?_⟩
  refine W.lp2 (fun n s => ∃ q f : Nat, n = (q : Int) ∧ q < 10 ^ f ∧ s.length + f ≤ 20 ∧ q ≤ 4611686018427387904 ∧ dgF 20 m = (if q = 0 then [] else dgF f q) ++ s) (fun n _ => n.toNat) ⟨m / 10, 19, rfl, ?_, by simp, by omega, rfl⟩ ?_
  · have := big10; rw [show (10 : Nat) ^ 20 = 10 ^ 19 * 10 from rfl] at this; omega
  rintro F n s ⟨q, f, rfl, h1, h2, h3, h4⟩ hn
  have h10 : q % 10 < 10 := Nat.mod_lt _ (by decide)
  simp only [s_ref10_decimal_1, tm10, td10 q h3, dig1 h10, W.cond, W.gd, W.ret, ltB_iff, ltB_not, i64b_eq, leB_iff]
  refine ⟨fun hq => ⟨by omega, by omega, by omega, by omega, Nat.ble_eq_true_of_le (by simp; omega), ?_⟩, fun hq => ?_⟩
  · cases f with
    | zero => simp at h1; omega
    | succ f =>
      refine hn _ _ ⟨q / 10, f, rfl, by rw [Nat.pow_succ] at h1; omega, by simp; omega, by omega, ?_⟩ (by omega)
      rw [h4, if_neg (by omega), dgF]
      simp
  · rw [h4, if_pos (by omega)]; rfl
theorem w_rLiteral (v : value_Value) (h0 : 0 ≤ v.Bits) (h1 : v.Bits ≤ 18446744073709551615) : W (fun N => s_ref10_Literal N v) (· = litS v) := by
  simp only [s_ref10_Literal, e_ref04_Check v h0 h1, Option.bind_some, W.cond, W.ret]
  refine ⟨fun h => by rw [litS, if_pos (by simpa using h)], fun h => ?_⟩
  have h : vchk v = 0 := by simpa using h
  have e : ∀ (a b : List UInt8), (if vchk v ≠ 0 then a else b) = b := fun a b => if_neg (by simp [h])
  have hl : litS v = if v.Kind = 1 then whS v.N else if v.Kind = 2 then (if v.N = 0 then [102, 97, 108, 115, 101] else [116, 114, 117, 101]) else if v.Kind = 3 then bitS v.Bits.toNat else txS v.Text := e _ _
  rw [hl]
  rcases vchk_ok h with ⟨n, rfl, q1, q2⟩ | rfl | rfl | ⟨u, rfl, q1⟩ | ⟨b, rfl, q1⟩
  · refine ⟨fun _ => ?_, fun h => (by simp at h)⟩
    simp only [if_true, ltB_iff, ltB_not, W.gd, i64b_eq]
    refine ⟨fun hn => ⟨by omega, ?_⟩, fun hn => ?_⟩
    · rw [show 0 - n = ((n.natAbs : Nat) : Int) by omega]
      refine W.call (w_decimal n.natAbs (by omega)) ?_
      rintro _ rfl
      have := dgF_len 20 n.natAbs
      simp only [W.gd, W.ret]
      refine ⟨Nat.ble_eq_true_of_le (by omega), ?_⟩
      rw [whS, if_pos hn]; rfl
    · obtain ⟨m, rfl⟩ := Int.eq_ofNat_of_zero_le hn
      refine W.call (w_decimal m (by omega)) ?_
      rintro _ rfl
      rw [whS, if_neg (by omega)]
      exact W.ret.2 rfl
  · exact ⟨fun h => (by simp at h), fun _ => ⟨fun _ => ⟨fun h => (by simp at h), fun _ => rfl⟩, fun h => (by simp at h)⟩⟩
  · exact ⟨fun h => (by simp at h), fun _ => ⟨fun _ => ⟨fun _ => rfl, fun h => (by simp at h)⟩, fun h => (by simp at h)⟩⟩
  · refine ⟨fun h => (by simp at h), fun _ => ⟨fun h => (by simp at h), fun _ => ⟨fun _ => ?_, fun h => (by simp at h)⟩⟩⟩
    dsimp only at h0 h1
    obtain ⟨w, rfl⟩ := Int.eq_ofNat_of_zero_le h0
    show W _ (· = bitS w)
    refine W.lp3 (fun s u i => ∃ k : Nat, i = (k : Int) ∧ k ≤ 16 ∧ u = ((w / 16 ^ k : Nat) : Int) ∧ s = hxS k w) (fun _ _ i => 16 - i.toNat) ⟨0, rfl, by omega, by simp, rfl⟩ ?_
    rintro F s u i ⟨k, rfl, hk, rfl, rfl⟩ hn
    have hq : w / 16 ^ k < 18446744073709551616 := Nat.lt_of_le_of_lt (Nat.div_le_self _ _) (by omega)
    have h16 : w / 16 ^ k % 16 < 16 := Nat.mod_lt _ (by decide)
    have hdd : w / 16 ^ k / 16 = w / 16 ^ (k + 1) := by rw [Nat.div_div_eq_div_mul, Nat.pow_succ]
    have hhx : hexB (w / 16 ^ k % 16) :: hxS k w = hxS (k + 1) w := rfl
    have hlen := hxS_len' w k
    generalize w / 16 ^ k = q at *
    have hw : IntKind.u64.wrap (((q % 16 : Nat) : Int) + 1) = ((q % 16 : Nat) : Int) + 1 := by rw [IntKind.wrap_u64]; omega
    simp only [s_ref10_Literal_1, tm16, td16 q hq, hw, hex1 h16, W.cond, W.gd, W.ret, ltB_iff, ltB_not, i64b_eq, leB_iff]
    refine ⟨fun hlt => ⟨by omega, by omega, by omega, Nat.ble_eq_true_of_le (by simp; omega), by omega, hn _ _ _ ⟨k + 1, rfl, by omega, by rw [hdd], hhx⟩ (by omega)⟩, fun hge => ⟨Nat.ble_eq_true_of_le (by omega), ?_⟩⟩
    rw [show k = 16 by omega]; rfl
  · refine ⟨fun h => (by simp at h), fun _ => ⟨fun h => (by simp at h), fun _ => ⟨fun h => (by simp at h), fun _ => ?_⟩⟩⟩
    show W _ (· = txS b)
    have hlen : ∀ pre rest : List UInt8, b = pre ++ rest → (pre.flatMap txC).length ≤ 72 := fun pre rest hb => by
      have : pre.length ≤ 24 := by rw [hb] at q1; simp at q1; omega
      have key : ∀ l : List UInt8, (l.flatMap txC).length ≤ 3 * l.length := fun l => by
        induction l with
        | nil => simp
        | cons c l ih =>
          have : (txC c).length ≤ 3 := by
            unfold txC
            split
            · simp
            · split <;> simp
          simp only [List.flatMap_cons, List.length_append, List.length_cons]; omega
      have := key pre; omega
    refine wf2z (l := b) (fun pre s => s = 39 :: pre.flatMap txC) [] rfl rfl (by omega) rfl ?_ ?_
    · rintro F pre c rest s hl' g1 g2 g3 rfl hn
      have hle := hlen pre _ hl'
      have hpl : pre.length < 24 := by rw [hl'] at q1; simp at q1; omega
      have h256 : c.toNat < 256 := c.toNat_lt
      have sub : List.drop (Int.toNat (pre.length : Int)) (List.take (Int.toNat ((pre.length : Int) + 1)) b) = [c] := by
        have := sub_take (y := b) (a := pre.length) (m := 1)
        rw [show ((1 : Nat) : Int) = 1 from rfl] at this
        rw [this, hl']; simp
      have d16 : IntKind.u8.wrap (Int.tdiv (c.toNat : Int) 16) = ((c.toNat / 16 : Nat) : Int) := by
        rw [show Int.tdiv (c.toNat : Int) 16 = ((c.toNat / 16 : Nat) : Int) from rfl, IntKind.wrap_u8]; omega
      have w1 : IntKind.u8.wrap (((c.toNat / 16 : Nat) : Int) + 1) = ((c.toNat / 16 : Nat) : Int) + 1 := by rw [IntKind.wrap_u8]; omega
      have w2 : IntKind.u8.wrap (((c.toNat % 16 : Nat) : Int) + 1) = ((c.toNat % 16 : Nat) : Int) + 1 := by rw [IntKind.wrap_u8]; omega
      have x1 := hex1 (show c.toNat / 16 < 16 by omega)
      have x2 := hex1 (show c.toNat % 16 < 16 by omega)
      have snoc : ∀ z : List UInt8, txC c = z → 39 :: pre.flatMap txC ++ z = 39 :: (pre ++ [c]).flatMap txC := fun z hz => by simp [hz]
      have hgt : (126 < c ↔ 126 < c.toNat) := by rw [UInt8.lt_iff_toNat_lt]; rfl
      have h32 : (c < 32 ↔ c.toNat < 32) := by rw [UInt8.lt_iff_toNat_lt]; rfl
      have esc : c ≠ 39 → (c < 32 ∨ 126 < c ∨ c = 92) → W (fun p : Nat × Nat => F p (39 :: pre.flatMap txC ++ [92] ++ [hexB (c.toNat / 16)] ++ [hexB (c.toNat % 16)]) ((pre.length : Int) + 1)) (· = txS b) := fun k1 k2 => by
        refine hn _ ?_
        rw [← snoc [92, hexB (c.toNat / 16), hexB (c.toNat % 16)] (by rw [txC, if_neg k1, if_pos k2])]
        simp
      simp only [s_ref10_Literal_2, g1, g2, g3, Option.bind_some, cond_true, gd_true, sub, d16, w1, w2, tm16, x1, x2, W.cond, W.gd, leB_iff, leB_not, i64b_eq]
      have hin : ∀ {n : Nat}, n < 256 → ((c.toNat : Int) == (n : Int)) = false → ¬ c = UInt8.ofNat n := fun hn h => by rw [u8eq hn] at h; simpa using h
      have hii : ∀ {n : Nat}, n < 256 → ((c.toNat : Int) == (n : Int)) = true → c = UInt8.ofNat n := fun hn h => by rw [u8eq hn] at h; simpa using h
      refine ⟨fun k => ?_, fun k => ?_⟩
      · have k : c = 39 := hii (n := 39) (by omega) k
        refine ⟨Nat.ble_eq_true_of_le (by simp only [List.length_cons]; omega), hn _ ?_⟩
        exact snoc [39, 39] (by rw [k]; rfl)
      have k : ¬ c = 39 := hin (n := 39) (by omega) k
      have l2 : (39 :: pre.flatMap txC).length ≤ 73 := by simp only [List.length_cons]; omega
      refine ⟨fun g32 => ⟨fun g126 => ⟨fun g92 => ?_, fun g92 => ?_⟩, fun g126 => ?_⟩, fun g32 => ?_⟩
      · have g92 : ¬ c = 92 := fun h => by subst h; exact absurd g92 (by decide)
        refine ⟨by omega, by omega, by rw [hl']; simp; omega, Nat.ble_eq_true_of_le (by simp only [List.length_cons, List.length_nil] at *; omega), hn _ ?_⟩
        refine snoc [c] ?_
        rw [txC, if_neg k, if_neg (fun h => by rcases h with h | h | h <;> first | exact g92 h | (have := h32.1 h; omega) | (have := hgt.1 h; omega))]
      · have g92 : c = 92 := hii (n := 92) (by omega) (by cases hh : ((c.toNat : Int) == 92) <;> simp_all)
        refine ⟨Nat.ble_eq_true_of_le (by omega), by omega, by omega, by omega, Nat.ble_eq_true_of_le (by simp only [List.length_append, List.length_cons, List.length_nil] at *; omega), by omega, by omega, by omega, Nat.ble_eq_true_of_le (by simp only [List.length_append, List.length_cons, List.length_nil] at *; omega), esc k (.inr (.inr g92))⟩
      · refine ⟨Nat.ble_eq_true_of_le (by omega), by omega, by omega, by omega, Nat.ble_eq_true_of_le (by simp only [List.length_append, List.length_cons, List.length_nil] at *; omega), by omega, by omega, by omega, Nat.ble_eq_true_of_le (by simp only [List.length_append, List.length_cons, List.length_nil] at *; omega), esc k (.inr (.inl (hgt.2 (by omega))))⟩
      · refine ⟨Nat.ble_eq_true_of_le (by omega), by omega, by omega, by omega, Nat.ble_eq_true_of_le (by simp only [List.length_append, List.length_cons, List.length_nil] at *; omega), by omega, by omega, by omega, Nat.ble_eq_true_of_le (by simp only [List.length_append, List.length_cons, List.length_nil] at *; omega), esc k (.inl (h32.2 (by omega)))⟩
    · rintro F s g1 rfl
      have hle := hlen b [] (by simp)
      simp only [s_ref10_Literal_2, g1, cond_false, W.gd, W.ret]
      exact ⟨Nat.ble_eq_true_of_le (by simp only [List.length_cons]; omega), rfl⟩
theorem w_rWord (t : lex_Token) (h0 : 0 ≤ t.Val.Bits) (h1 : t.Val.Bits ≤ 18446744073709551615) : W (fun N => s_ref10_Word N t) (· = wt t) := by
  simp only [s_ref10_Word, W.cond, W.ret, beq_iff_eq, beq_eq_false_iff_ne, ne_eq]
  refine ⟨fun hk => ?_, fun k3 => ⟨fun hk => ?_, fun k1 => ⟨fun hk => ?_, fun k2 => ⟨fun hk => ?_, fun k4 => ?_⟩⟩⟩⟩
  · refine W.call (w_rLiteral t.Val h0 h1) ?_
    rintro _ rfl
    rw [wt, wk, if_neg (by omega), if_pos hk]; exact W.ret.2 rfl
  · rw [wt, wk, if_pos (by omega)]
  · rw [wt, wk, if_pos (by omega)]
  · rw [wt, wk, if_pos (by omega)]
  · rw [wt, wk, if_neg (by omega), if_neg k3]
theorem jn_snoc : ∀ (l : List (List UInt8)) (w : List UInt8), jn (l ++ [w]) = if l = [] then w else jn l ++ 32 :: w
  | [], w => rfl
  | [x], w => rfl
  | x :: y :: l, w => by
    have := jn_snoc (y :: l) w
    simp only [List.cons_append] at this ⊢
    rw [if_neg (by simp)] at this
    rw [jn, this, if_neg (by simp), jn]
    simp
theorem w_rPrint (l : List lex_Token) (hl : l.length ≤ 700) (hw : ∀ t ∈ l, (wt t).length ≤ 1000 ∧ 0 ≤ t.Val.Bits ∧ t.Val.Bits ≤ 18446744073709551615) : W (fun N => s_ref10_Print N l) (· = jn (l.map wt)) := by
  simp only [s_ref10_Print]
  refine wf2z (l := l) (fun pre s => s = jn (pre.map wt)) [] rfl rfl (by omega) rfl ?_ ?_
  · rintro F pre e rest s hl' h1 h2 h3 rfl hn
    obtain ⟨q0, q1, q2⟩ := hw e (by rw [hl']; simp)
    have hj := jn_len (pre.map wt) (fun w hm => by
      obtain ⟨t, ht, rfl⟩ := List.mem_map.1 hm
      exact (hw t (by rw [hl']; simp [ht])).1)
    rw [List.length_map] at hj
    have hpl : pre.length ≤ 700 := by rw [hl'] at hl; simp at hl; omega
    have sn := jn_snoc (pre.map wt) (wt e)
    simp only [s_ref10_Print_1, h1, h2, h3, Option.bind_some, cond_true, gd_true]
    refine W.cond.2 ⟨fun h0 => ?_, fun h0 => ?_⟩
    · have h0 := ltB_iff.1 h0
      rw [if_neg (by intro h; rw [List.map_eq_nil_iff] at h; rw [h] at h0; simp at h0)] at sn
      refine W.gd.2 ⟨Nat.ble_eq_true_of_le (by omega), ?_⟩
      refine W.call (w_rWord e q1 q2) ?_
      rintro _ rfl
      refine W.gd.2 ⟨Nat.ble_eq_true_of_le (by simp; omega), hn _ ?_⟩
      rw [List.map_append]
      show _ = jn (pre.map wt ++ [wt e])
      rw [sn]; simp
    · have h0 := ltB_not.1 h0
      have hnil : pre = [] := by cases pre with | nil => rfl | cons => simp at h0; omega
      subst hnil
      refine W.call (w_rWord e q1 q2) ?_
      rintro _ rfl
      refine W.gd.2 ⟨Nat.ble_eq_true_of_le (by simp [jn]; omega), hn _ rfl⟩
  · rintro F s h1 rfl
    simp only [s_ref10_Print_1, h1, cond_false, W.ret]
end Go.Proofs.YtmjmbhkohcdlpaaDoor.W
namespace Go.Proofs.YtmjmbhkohcdlpaaDoor.W
open Go
set_option linter.unusedSimpArgs false
set_option linter.unusedVariables false

theorem w_Small' (v : value_Value) (hv : v.Text.length ≤ 9223372036854775807) : W (fun N => s_law04_Small N v) fun _ => True := by simp only [s_law04_Small, W.gd, W.ret, i64b_eq, and_true]; omega
theorem w_Own (l : List lex_Token) (hl : l.length ≤ 700) : W (fun N => s_law10_Own N l) (· = l) := by
  simp only [s_law10_Own]
  refine wf2a (l := l) (fun pre ys => ys = pre) [] rfl rfl (by omega) rfl ?_ ?_
  · rintro F pre e rest ys hl' h1 h2 h3 rfl hn
    simp only [s_law10_Own_1, h1, h2, h3, Option.bind_some, cond_true, W.gd, true_and]
    refine ⟨Nat.ble_eq_true_of_le (by rw [hl'] at hl; simp at hl; omega), hn _ rfl⟩
  · rintro F ys h1 rfl
    simp only [s_law10_Own_1, h1, cond_false, W.ret]
theorem w_Over (l : List lex_Token) (hl : okL ok_lex_Token l) : W (fun N => s_law10_Over N l 40) fun b => ¬ 0 < b → l.length ≤ 40 ∧ ∀ t ∈ l, t.Text.length ≤ 100 := by
  simp only [s_law10_Over, W.cond, W.ret, ltB_iff, ltB_not]
  refine ⟨fun h h2 => absurd (by omega) h2, fun h => ?_⟩
  refine wf1 (l := l) (fun pre => ∀ t ∈ pre, t.Text.length ≤ 100) [] rfl rfl (by omega) (by simp) ?_ ?_
  · intro F pre e rest hl' h1 h2 h3 hp hn
    have he := hl.1 e (by rw [hl']; simp)
    simp only [s_law10_Over_1, h1, h2, h3, Option.bind_some, cond_true, W.cond, W.ret, gd_true, ltB_iff, ltB_not]
    refine ⟨fun _ h => absurd (by omega) h, fun h100 => ?_⟩
    refine W.call (w_Small' e.Val (okS_le he.2.2.2.2.2.2)) fun b _ => ?_
    simp only [W.cond, W.ret]
    refine ⟨fun _ h => absurd (by omega) h, fun _ => hn fun t ht => ?_⟩
    rcases List.mem_append.1 ht with ht | ht
    · exact hp t ht
    · rw [List.mem_singleton.1 ht]; omega
  · intro F h1 hp
    simp only [s_law10_Over_1, h1, cond_false, W.ret]
    exact fun _ => ⟨by omega, hp⟩
theorem w_rSame' (a b : List lex_Token) (hl : a.length ≤ 700) : W (fun N => s_ref10_Same N a b) (· = (decide (a.length = b.length) && sameL a b)) := by
  have e : ((a.length : Int) != (b.length : Int)) = !decide (a.length = b.length) := by
    by_cases h : a.length = b.length
    · simp [h]
    · simp [h]; omega
  simp only [s_ref10_Same, e, W.cond, W.ret]
  refine ⟨fun h => ?_, fun h => ?_⟩
  · have : decide (a.length = b.length) = false := by simpa using h
    rw [this]; rfl
  · have hab : a.length = b.length := by simpa using h
    rw [decide_eq_true hab, Bool.true_and]
    refine wr1 (l := a) (fun pre rest => sameL rest (b.drop pre.length)) [] a rfl rfl (by omega) ?_ ?_
    · intro F pre e rest hl h1 h2 h3 hn
      obtain ⟨f, r2, q1, q2, q3⟩ := drop_len hab hl
      rw [List.length_append, List.length_singleton, q2] at hn
      rw [q1]
      simp only [s_ref10_Same_1, h1, h2, h3, q3, Option.bind_some, cond_true, W.cond, W.ret, gd_true, sameL, eqT, eqV]
      refine ⟨fun h => ?_, fun h => ⟨fun h' => ?_, fun h' => ⟨fun h'' => ?_, fun h'' => ?_⟩⟩⟩
      · have h : (e.Kind == f.Kind) = false := by simpa using h
        rw [h]; rfl
      · have h' : (e.Text == f.Text) = false := by simpa using h'
        simp [h']
      · have h'' : ((e.Val.Kind == f.Val.Kind) && ((e.Val.N == f.Val.N) && ((e.Val.Bits == f.Val.Bits) && (e.Val.Text == f.Val.Text)))) = false := by simpa only [Bool.not_eq_true'] using h''
        simp only [h'', Bool.and_false, Bool.false_and]
      · have h : (e.Kind == f.Kind) = true := by simpa using h
        have h' : (e.Text == f.Text) = true := by simpa using h'
        have h'' : ((e.Val.Kind == f.Val.Kind) && ((e.Val.N == f.Val.N) && ((e.Val.Bits == f.Val.Bits) && (e.Val.Text == f.Val.Text)))) = true := by simpa only [Bool.not_eq_false'] using h''
        simp only [h, h', h'', Bool.true_and]
        exact hn
    · intro F h1
      have : b.drop a.length = [] := List.drop_eq_nil_of_le (by omega)
      rw [this]
      simp only [s_ref10_Same_1, h1, cond_false, W.ret, sameL]
theorem full_LexPrints (l : anon_42) (v : value_Value) (hl : ok_anon_42 l) (hv : ok_value_Value v) : W (fun N => s_law10_LexPrints N l v) (· = true) := by
  have bv := inK_u64 hv.2.2.1
  simp only [s_law10_LexPrints]
  refine W.call (w_Over l.i0 hl.1) fun b h1 => ?_
  refine W.cond.2 ⟨fun _ => aw _, fun hb1 => ?_⟩
  refine W.call (w_Over l.i1 hl.2) fun b2 h2 => ?_
  refine W.cond.2 ⟨fun _ => aw _, fun hb2 => ?_⟩
  refine W.call (w_Small' v (okS_le hv.2.2.2)) fun b3 _ => ?_
  refine W.cond.2 ⟨fun _ => aw _, fun _ => ?_⟩
  obtain ⟨l40, l100⟩ := h1 (by have := ltB_not.1 hb1; omega)
  obtain ⟨m40, _⟩ := h2 (by have := ltB_not.1 hb2; omega)
  refine W.call (w_Own l.i0 (by omega)) ?_
  rintro _ rfl
  refine W.call (w_Own l.i1 (by omega)) ?_
  rintro _ rfl
  have hw : ∀ t ∈ l.i0, (wt t).length ≤ 1000 ∧ 0 ≤ t.Val.Bits ∧ t.Val.Bits ≤ 18446744073709551615 := fun t ht => by
    have b := inK_u64 (hl.1.1 t ht).2.2.2.2.2.1
    refine ⟨?_, b.1, b.2⟩
    have h1 := l100 t ht
    have h2 := litS_len t.Val
    show (wk t.Kind t.Text t.Val).length ≤ 1000
    unfold wk
    split
    · omega
    · split
      · omega
      · simp
  have hw' : ∀ t ∈ l.i0, (wt t).length ≤ 1000 ∧ 0 ≤ t.Val.Bits ∧ t.Val.Bits < 18446744073709551616 := fun t ht => ⟨(hw t ht).1, (hw t ht).2.1, by have := (hw t ht).2.2; omega⟩
  refine wf1 (l := l.i0) (fun _ => True) [] rfl rfl (by omega) trivial ?_ ?_
  · intro F pre e rest hl' h1 h2 h3 _ hn
    have he := hw e (by rw [hl']; simp)
    simp only [s_law10_LexPrints_1, h1, h2, h3, Option.bind_some, cond_true, gd_true]
    refine W.call (w_Word e he.2.1 (by omega)) ?_
    rintro _ rfl
    refine W.call (w_rWord e he.2.1 he.2.2) ?_
    rintro _ rfl
    simp only [BEq.rfl, Bool.not_true, cond_false]
    exact hn trivial
  · intro F h1 _
    simp only [s_law10_LexPrints_1, h1, cond_false]
    refine W.call (w_Print l.i0 (by omega) hw') ?_
    rintro _ rfl
    refine W.call (w_rPrint l.i0 (by omega) hw) ?_
    rintro _ rfl
    simp only [BEq.rfl, cond_true]
    refine W.call (w_Literal v bv.1 (by omega)) ?_
    rintro _ rfl
    refine W.call (w_rLiteral v bv.1 bv.2) ?_
    rintro _ rfl
    simp only [BEq.rfl, cond_true]
    refine W.call (w_Same l.i0 l.i1 (by omega)) ?_
    rintro _ rfl
    refine W.call (w_rSame' l.i0 l.i1 (by omega)) ?_
    rintro _ rfl
    simp only [BEq.rfl, cond_true]
    exact aw _
end Go.Proofs.YtmjmbhkohcdlpaaDoor.W
