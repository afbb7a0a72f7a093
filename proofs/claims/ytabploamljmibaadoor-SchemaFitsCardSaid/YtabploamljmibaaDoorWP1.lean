/- What the law is handed, told as what its plain text takes. No premise beyond what each theorem says. -/
import Derived.Test.YtabploamljmibaaDoorWG1
import Derived.Test.YtabploamljmibaaDoorWA3
import Derived.Test.YtabploamljmibaaDoorWA4
set_option linter.all false
set_option linter.unusedSimpArgs false
set_option linter.unusedVariables false
namespace Go.Proofs.YtabploamljmibaaDoor.W
open Go
open Go.Proofs.Tryd
set_option maxRecDepth 1000000
set_option linter.unusedSimpArgs false
set_option linter.unusedVariables false
def ok_schema_Field (x : schema_Field) : Prop := okS x.Name ∧ (inK .u8) x.Kind
def ok_schema_Type (x : schema_Type) : Prop := okS x.Name ∧ (okL ok_schema_Field) x.Fields
theorem d_law06_SchemaFits_t9 {H : Type} (d : DataW H) (cs : List AV) (h : DAv prog 9 d cs) : ∃ x : List UInt8, cs = [.v (.string (bs x))] ∧ okS x := by
  obtain ⟨x, h, h1⟩ := dv_string (by kernel_rfl) h
  exact ⟨x, h, h1⟩
theorem d_law06_SchemaFits_t5 {H : Type} (d : DataW H) (cs : List AV) (h : DAv prog 5 d cs) : ∃ x : Int, cs = [.v (.int .u8 x)] ∧ (inK .u8) x := by
  obtain ⟨x, h, h1, h2⟩ := dv_int (k := .u8) (by kernel_rfl) h
  exact ⟨x, h, h1, h2⟩
theorem d_law06_SchemaFits_t64 {H : Type} (d : DataW H) (cs : List AV) (h : DAv prog 64 d cs) : ∃ x : schema_Field, cs = [.v (.string (bs x.Name)), .v (.int .u8 x.Kind)] ∧ ok_schema_Field x := by
  obtain ⟨_, h⟩ := dv_struct (ts := [9, 5]) (by kernel_rfl) h
  obtain ⟨_, _, _, _, rfl, h0, h⟩ := dvs_cons h
  obtain ⟨_, _, _, _, rfl, h1, h⟩ := dvs_cons h
  obtain rfl := dvs_nil h
  obtain ⟨x0, rfl, k0⟩ := d_law06_SchemaFits_t9 _ _ h0
  obtain ⟨x1, rfl, k1⟩ := d_law06_SchemaFits_t5 _ _ h1
  exact ⟨⟨x0, x1⟩, rfl, ⟨k0, k1⟩⟩
theorem d_law06_SchemaFits_t22 {H : Type} (d : DataW H) (cs : List AV) (h : DAv prog 22 d cs) : ∃ x : List schema_Field, cs = [.sl 2 (List.map eA0 x)] ∧ (okL ok_schema_Field) x := by
  obtain ⟨x, h, h1, h2⟩ := dv_slice (e := 64) (k := 2) eA0 ok_schema_Field (by kernel_rfl) (by kernel_rfl) (fun d cs h => by obtain ⟨x, h1, h2⟩ := d_law06_SchemaFits_t64 d cs h; subst h1; exact ⟨x, mkE_agg (by kernel_rfl), h2⟩) h
  exact ⟨x, h, h1, h2⟩
theorem d_law06_SchemaFits_t24 {H : Type} (d : DataW H) (cs : List AV) (h : DAv prog 24 d cs) : ∃ x : schema_Type, cs = [.v (.string (bs x.Name)), .sl 2 (List.map eA0 x.Fields)] ∧ ok_schema_Type x := by
  obtain ⟨_, h⟩ := dv_struct (ts := [9, 22]) (by kernel_rfl) h
  obtain ⟨_, _, _, _, rfl, h0, h⟩ := dvs_cons h
  obtain ⟨_, _, _, _, rfl, h1, h⟩ := dvs_cons h
  obtain rfl := dvs_nil h
  obtain ⟨x0, rfl, k0⟩ := d_law06_SchemaFits_t9 _ _ h0
  obtain ⟨x1, rfl, k1⟩ := d_law06_SchemaFits_t22 _ _ h1
  exact ⟨⟨x0, x1⟩, rfl, ⟨k0, k1⟩⟩
def ok_value_Value (x : value_Value) : Prop := (inK .u8) x.Kind ∧ (inK .i64) x.N ∧ (inK .u64) x.Bits ∧ okS x.Text
theorem d_law06_SchemaFits_t3 {H : Type} (d : DataW H) (cs : List AV) (h : DAv prog 3 d cs) : ∃ x : Int, cs = [.v (.int .i64 x)] ∧ (inK .i64) x := by
  obtain ⟨x, h, h1, h2⟩ := dv_int (k := .i64) (by kernel_rfl) h
  exact ⟨x, h, h1, h2⟩
theorem d_law06_SchemaFits_t30 {H : Type} (d : DataW H) (cs : List AV) (h : DAv prog 30 d cs) : ∃ x : Int, cs = [.v (.int .u64 x)] ∧ (inK .u64) x := by
  obtain ⟨x, h, h1, h2⟩ := dv_int (k := .u64) (by kernel_rfl) h
  exact ⟨x, h, h1, h2⟩
theorem d_law06_SchemaFits_t32 {H : Type} (d : DataW H) (cs : List AV) (h : DAv prog 32 d cs) : ∃ x : value_Value, cs = [.v (.int .u8 x.Kind), .v (.int .i64 x.N), .v (.int .u64 x.Bits), .v (.string (bs x.Text))] ∧ ok_value_Value x := by
  obtain ⟨_, h⟩ := dv_struct (ts := [5, 3, 30, 9]) (by kernel_rfl) h
  obtain ⟨_, _, _, _, rfl, h0, h⟩ := dvs_cons h
  obtain ⟨_, _, _, _, rfl, h1, h⟩ := dvs_cons h
  obtain ⟨_, _, _, _, rfl, h2, h⟩ := dvs_cons h
  obtain ⟨_, _, _, _, rfl, h3, h⟩ := dvs_cons h
  obtain rfl := dvs_nil h
  obtain ⟨x0, rfl, k0⟩ := d_law06_SchemaFits_t5 _ _ h0
  obtain ⟨x1, rfl, k1⟩ := d_law06_SchemaFits_t3 _ _ h1
  obtain ⟨x2, rfl, k2⟩ := d_law06_SchemaFits_t30 _ _ h2
  obtain ⟨x3, rfl, k3⟩ := d_law06_SchemaFits_t9 _ _ h3
  exact ⟨⟨x0, x1, x2, x3⟩, rfl, ⟨k0, k1, k2, k3⟩⟩
theorem d_law06_SchemaFits_t25 {H : Type} (d : DataW H) (cs : List AV) (h : DAv prog 25 d cs) : ∃ x : List value_Value, cs = [.sl 4 (List.map eA3 x)] ∧ (okL ok_value_Value) x := by
  obtain ⟨x, h, h1, h2⟩ := dv_slice (e := 32) (k := 4) eA3 ok_value_Value (by kernel_rfl) (by kernel_rfl) (fun d cs h => by obtain ⟨x, h1, h2⟩ := d_law06_SchemaFits_t32 d cs h; subst h1; exact ⟨x, mkE_agg (by kernel_rfl), h2⟩) h
  exact ⟨x, h, h1, h2⟩
theorem d_law06_SchemaFits {H : Type} (ds : List (DataW H)) (xs : List AV) (h : DAvV prog [24, 25] ds xs) :
    ∃ (t : schema_Type) (l : List value_Value), xs = [.agg [.v (.string (bs t.Name)), .sl 2 (List.map eA0 t.Fields)], .sl 4 (List.map eA3 l)] ∧ ok_schema_Type t ∧ (okL ok_value_Value) l := by
  obtain ⟨_, _, _, _, rfl, rfl, h0, h⟩ := dvv_cons h
  obtain ⟨_, _, _, _, rfl, rfl, h1, h⟩ := dvv_cons h
  obtain ⟨rfl, rfl⟩ := dvv_nil h
  obtain ⟨x0, rfl, k0⟩ := d_law06_SchemaFits_t24 _ _ h0
  obtain ⟨x1, rfl, k1⟩ := d_law06_SchemaFits_t25 _ _ h1
  exact ⟨x0, x1, by rw [mkE_agg (by kernel_rfl), mkE_one (by kernel_rfl)], k0, k1⟩
end Go.Proofs.YtabploamljmibaaDoor.W
namespace Go.Proofs.YtabploamljmibaaDoor.W
open Go
set_option linter.unusedSimpArgs false
set_option linter.unusedVariables false

theorem wall {α : Type} {f : Nat → Option α} {a : α} (h : ∀ N, f N = some a) : W f (· = a) := ⟨a, ⟨0, fun N _ => h N⟩, rfl⟩
theorem ncmp (a : Int) : compare a a = .eq := by simp [compare, compareOfLessAndEq]
theorem bcmp (a : Bool) : compare a.toNat a.toNat = .eq := by simp [compare, compareOfLessAndEq]
theorem nan_iff (n : Nat) : fcmpB .neq .f64 n n = decide (9218868437227405312 < n % 9223372036854775808) := by
  have h : FloatKind.f64.format = Ieee.double := rfl
  simp only [fcmpB, h, Ieee.Format.order, Ieee.Format.read]
  have e1 : Ieee.double.signWeight = 9223372036854775808 := by decide
  have e2 : Ieee.double.infRung = 9218868437227405312 := by decide
  have e3 : Ieee.double.binade = 4503599627370496 := by decide
  rw [e1, e2, e3]
  by_cases h1 : n % 9223372036854775808 < 4503599627370496
  · rw [if_pos h1, decide_eq_false (by omega)]; simp only [Ieee.Datum.order, ncmp]; rfl
  · by_cases h2 : n % 9223372036854775808 < 9218868437227405312
    · rw [if_neg h1, if_pos h2, decide_eq_false (by omega)]; simp only [Ieee.Datum.order, ncmp]; rfl
    · by_cases h3 : n % 9223372036854775808 = 9218868437227405312
      · rw [if_neg h1, if_neg h2, if_pos h3, decide_eq_false (by omega)]; simp only [Ieee.Datum.order, bcmp]; rfl
      · rw [if_neg h1, if_neg h2, if_neg h3, decide_eq_true (by omega)]; rfl

def cln (u : Int) : Int := if 9218868437227405312 < u.toNat % 9223372036854775808 then 9221120237041090560 else u
theorem e_real_Clean (u : Int) (N : Nat) : s_real_Clean N u = some (cln u) := by
  simp only [s_real_Clean, s_real_of, Option.bind_some, nan_iff, cln, decide_eq_true_eq, Bool.cond_eq_ite]
  split <;> rfl
theorem e_ref03_Clean (u : Int) (h0 : 0 ≤ u) (h1 : u ≤ 18446744073709551615) (N : Nat) : s_ref03_Clean N u = some (cln u) := by
  obtain ⟨n, rfl⟩ : ∃ n : Nat, u = (n : Int) := ⟨u.toNat, by omega⟩
  have d1 : Int.tdiv (n : Int) 4503599627370496 = ((n / 4503599627370496 : Nat) : Int) := rfl
  have w1 : IntKind.u64.wrap ((n / 4503599627370496 : Nat) : Int) = ((n / 4503599627370496 : Nat) : Int) := by
    rw [IntKind.wrap_u64]; omega
  have d2 : Int.tmod ((n / 4503599627370496 : Nat) : Int) 2048 = ((n / 4503599627370496 % 2048 : Nat) : Int) := rfl
  have w2 : IntKind.i64.wrap ((n / 4503599627370496 % 2048 : Nat) : Int) = ((n / 4503599627370496 % 2048 : Nat) : Int) := by
    rw [IntKind.wrap_i64]; omega
  have d3 : Int.tmod (n : Int) 4503599627370496 = ((n % 4503599627370496 : Nat) : Int) := rfl
  have hexp : s_ref03_Exp N n = some ((n / 4503599627370496 % 2048 : Nat) : Int) := by simp only [s_ref03_Exp, d1, w1, d2, w2]
  have hfrac : s_ref03_Frac N n = some ((n % 4503599627370496 : Nat) : Int) := by simp only [s_ref03_Frac, d3]
  have hk : ∃ k, s_ref03_Kind N n = some k ∧ (k == 5) = decide (9218868437227405312 < n % 9223372036854775808) := by
    simp only [s_ref03_Kind, hexp, hfrac, Option.bind_some, Bool.cond_eq_ite]
    by_cases c1 : n / 4503599627370496 % 2048 = 2047
    · have c1' : (((n / 4503599627370496 % 2048 : Nat) : Int) == 2047) = true := by simp; omega
      by_cases c2 : n % 4503599627370496 = 0
      · have c2' : (((n % 4503599627370496 : Nat) : Int) != 0) = false := by simp; omega
        simp only [c1', c2', if_true]
        exact ⟨4, rfl, by symm; exact decide_eq_false (by omega)⟩
      · have c2' : (((n % 4503599627370496 : Nat) : Int) != 0) = true := by simp; omega
        simp only [c1', c2', if_true]
        exact ⟨5, rfl, by symm; exact decide_eq_true (by omega)⟩
    · have c1' : (((n / 4503599627370496 % 2048 : Nat) : Int) == 2047) = false := by simp; omega
      simp only [c1', Bool.false_eq_true, if_false]
      have hd : decide (9218868437227405312 < n % 9223372036854775808) = false := decide_eq_false (by omega)
      rw [hd]
      by_cases c3 : (((n / 4503599627370496 % 2048 : Nat) : Int) != 0) = true
      · simp only [c3, if_true]; exact ⟨3, rfl, rfl⟩
      · by_cases c4 : (((n % 4503599627370496 : Nat) : Int) != 0) = true
        · simp only [eq_false_of_ne_true c3, c4, if_true, Bool.false_eq_true, if_false]; exact ⟨2, rfl, rfl⟩
        · simp only [eq_false_of_ne_true c3, eq_false_of_ne_true c4, Bool.false_eq_true, if_false]; exact ⟨1, rfl, rfl⟩
  obtain ⟨k, hk1, hk2⟩ := hk
  simp only [s_ref03_Clean, hk1, hk2, Option.bind_some, cln, decide_eq_true_eq, Int.toNat_natCast, Bool.cond_eq_ite]
  split <;> rfl

def vchk (v : value_Value) : Int :=
  if v.Kind = 1 then (if v.N < -4611686018427387904 ∨ 4611686018427387904 < v.N then 8 else if v.Bits = 0 ∧ v.Text = [] then 0 else 2)
  else if v.Kind = 2 then (if v.N < 0 ∨ 1 < v.N then 8 else if v.Bits = 0 ∧ v.Text = [] then 0 else 2)
  else if v.Kind = 3 then (if cln v.Bits ≠ v.Bits then 4 else if v.N = 0 ∧ v.Text = [] then 0 else 2)
  else if v.Kind = 4 then (if 24 < v.Text.length then 5 else if v.N = 0 ∧ v.Bits = 0 then 0 else 2)
  else 11
theorem e_ref04_Check (v : value_Value) (h0 : 0 ≤ v.Bits) (h1 : v.Bits ≤ 18446744073709551615) (N : Nat) : s_ref04_Check N v = some (vchk v) := by
  have hc := e_ref03_Clean v.Bits h0 h1 N
  simp only [s_ref04_Check, hc, Option.bind_some, vchk, Bool.cond_eq_ite, ltB_iff]
  by_cases k1 : v.Kind = 1
  · simp [k1]; repeat' split
    all_goals first | rfl | (exfalso; omega) | simp_all
  · by_cases k2 : v.Kind = 2
    · simp [k2]; repeat' split
      all_goals first | rfl | (exfalso; omega) | simp_all
    · by_cases k3 : v.Kind = 3
      · simp [k3]; repeat' split
        all_goals first | rfl | (exfalso; omega) | simp_all
      · by_cases k4 : v.Kind = 4
        · simp [k4]; repeat' split
          all_goals first | rfl | (exfalso; omega) | simp_all
        · simp [k1, k2, k3, k4]; repeat' split
          all_goals first | rfl | (exfalso; omega) | (intros; omega) | simp_all
theorem e_value_Check (v : value_Value) (N : Nat) : s_value_Check N v = some (vchk v) := by
  have hc := e_real_Clean v.Bits N
  simp only [s_value_Check, s_value_core, vchk, Bool.cond_eq_ite]
  by_cases k1 : v.Kind = 1
  · simp [k1, s_value_number_whole, ltB_iff]; repeat' split
    all_goals first | rfl | (exfalso; omega) | simp_all [eq_comm]
  · by_cases k2 : v.Kind = 2
    · simp [k2, s_value_flag_whole]; repeat' split
      all_goals first | rfl | (exfalso; omega) | simp_all [eq_comm]
    · by_cases k3 : v.Kind = 3
      · simp [k3, s_value_double_whole, hc]; repeat' split
        all_goals first | rfl | (exfalso; omega) | simp_all [eq_comm]
      · by_cases k4 : v.Kind = 4
        · simp [k4, s_value_words_whole, ltB_iff]; repeat' split
          all_goals first | rfl | (exfalso; omega) | simp_all [eq_comm]
        · simp [k1, k2, k3, k4]
theorem w_value_Check (v : value_Value) : W (fun N => s_value_Check N v) (· = vchk v) := wall (e_value_Check v)

def fits : List value_Value → List schema_Field → Int
  | v :: r, f :: q => if vchk v != 0 then vchk v else if v.Kind != f.Kind then 19 else fits r q
  | _, _ => 0
def fit (t : schema_Type) (l : List value_Value) : Int := if ((l.length : Int) != (t.Fields.length : Int)) then 5 else fits l t.Fields
theorem drop_len {α β : Type} {l : List α} {q : List β} (hl : l.length = q.length) {pre rest : List α} {e : α} (h : l = pre ++ e :: rest) : ∃ f rest2, q.drop pre.length = f :: rest2 ∧ q.drop (pre.length + 1) = rest2 ∧ ix q (pre.length : Int) = some f := by
  have hi : pre.length < q.length := by rw [← hl, h]; simp
  exact ⟨q[pre.length], _, List.drop_eq_getElem_cons hi, rfl, by rw [ix_nat']; exact List.getElem?_eq_getElem hi⟩
theorem w_schema_Fits (t : schema_Type) (l : List value_Value) (hb : l.length ≤ 1000) : W (fun N => s_schema_Fits N t l) (· = fit t l) := by
  simp only [s_schema_Fits, fit, W.cond, W.ret]
  refine ⟨fun h => by simp only [h, if_true], fun h => ?_⟩
  have hl : l.length = t.Fields.length := by have := bne_eq_false_iff_eq.1 h; omega
  simp only [h, Bool.false_eq_true, if_false]
  refine wr1 (l := l) (fun pre rest => fits rest (t.Fields.drop pre.length)) [] l rfl rfl (by omega) ?_ ?_
  · intro F pre e rest hl' h1 h2 h3 hn
    obtain ⟨f, rest2, q1, q2, q3⟩ := drop_len hl hl'
    rw [List.length_append, List.length_singleton, q2] at hn
    simp only [s_schema_Fits_1, h1, h2, Option.bind_some, cond_true, q1, fits]
    refine W.call (w_value_Check e) ?_
    rintro _ rfl
    simp only [q3, Option.bind_some, W.cond, W.ret, W.gd, h3, true_and]
    refine ⟨fun h => by simp only [h, if_true], fun h => ⟨fun h' => by simp only [h, h', Bool.false_eq_true, if_false, if_true], fun h' => ?_⟩⟩
    simp only [h, h', Bool.false_eq_true, if_false]
    exact hn
  · intro F h1
    simp only [s_schema_Fits_1, h1, cond_false, W.ret, fits]
theorem w_ref06_Fits (t : schema_Type) (l : List value_Value) (hb : l.length ≤ 1000) (hv : ∀ v ∈ l, 0 ≤ v.Bits ∧ v.Bits ≤ 18446744073709551615) : W (fun N => s_ref06_Fits N t l) (· = fit t l) := by
  simp only [s_ref06_Fits, fit, W.cond, W.ret]
  refine ⟨fun h => by simp only [h, if_true], fun h => ?_⟩
  have hl : l.length = t.Fields.length := by have := bne_eq_false_iff_eq.1 h; omega
  simp only [h, Bool.false_eq_true, if_false]
  refine wr1 (l := l) (fun pre rest => fits rest (t.Fields.drop pre.length)) [] l rfl rfl (by omega) ?_ ?_
  · intro F pre e rest hl' h1 h2 h3 hn
    obtain ⟨f, rest2, q1, q2, q3⟩ := drop_len hl hl'
    have hm := hv e (by rw [hl']; simp)
    rw [List.length_append, List.length_singleton, q2] at hn
    simp only [s_ref06_Fits_1, h1, h2, Option.bind_some, cond_true, q1, fits, e_ref04_Check e hm.1 hm.2]
    simp only [q3, Option.bind_some, W.cond, W.ret, W.gd, h3, true_and]
    refine ⟨fun h => by simp only [h, if_true], fun h => ⟨fun h' => by simp only [h, h', Bool.false_eq_true, if_false, if_true], fun h' => ?_⟩⟩
    simp only [h, h', Bool.false_eq_true, if_false]
    exact hn
  · intro F h1
    simp only [s_ref06_Fits_1, h1, cond_false, W.ret, fits]
end Go.Proofs.YtabploamljmibaaDoor.W
namespace Go.Proofs.YtabploamljmibaaDoor.W
open Go
set_option linter.unusedSimpArgs false
set_option linter.unusedVariables false

def small (l : List schema_Type) : Prop := l.length ≤ 12 ∧ ∀ t ∈ l, t.Name.length ≤ 40 ∧ t.Fields.length ≤ 12 ∧ ∀ f ∈ t.Fields, f.Name.length ≤ 40
theorem w_law06_Over (l : List schema_Type) : W (fun N => s_law06_Over N l) fun r => ¬ 0 < r → small l := by
  simp only [s_law06_Over, W.cond, W.ret, ltB_iff, ltB_not]
  refine ⟨by omega, fun hl => ?_⟩
  refine wf1 (l := l) (fun pre => ∀ t ∈ pre, t.Name.length ≤ 40 ∧ t.Fields.length ≤ 12 ∧ ∀ f ∈ t.Fields, f.Name.length ≤ 40) [] rfl rfl (by omega) (by simp) ?_ ?_
  · intro F pre t rest hl h1 h2 h3 hp hn
    simp only [s_law06_Over_1, h1, h2, W.some, W.cond, W.ret, ltB_iff, ltB_not]
    refine ⟨fun _ => ⟨by omega, fun hn1 => ⟨by omega, fun hn2 => ?_⟩⟩, by simp⟩
    refine wf1 (l := t.Fields) (fun pre => ∀ f ∈ pre, f.Name.length ≤ 40) [] rfl rfl (by omega) (by simp) ?_ ?_
    · intro F' pre' f rest' hl' k1 k2 k3 hp' hn'
      simp only [s_law06_Over_2, h1, h2, k1, k2, k3, W.some, W.cond, W.ret, gd_true, ltB_iff, ltB_not]
      refine ⟨fun _ => ⟨by omega, fun hf => hn' ?_⟩, by simp⟩
      simp only [List.mem_append, List.mem_singleton]
      rintro f (h | rfl)
      · exact hp' f h
      · omega
    · intro F' k1 hp'
      simp only [s_law06_Over_2, h1, h2, h3, k1, W.some, W.cond, W.ret, gd_true]
      refine ⟨by simp, fun _ => (hn ?_).lift⟩
      simp only [List.mem_append, List.mem_singleton]
      rintro t (h | rfl)
      · exact hp t h
      · exact ⟨by omega, by omega, hp'⟩
  · intro F h1 hp
    simp only [s_law06_Over_1, h1, W.some, W.cond, W.ret]
    exact ⟨by simp, fun _ _ => ⟨by omega, hp⟩⟩

theorem W.tt {ι : Type} [Lim ι] {α : Type} {f : ι → Option α} {Q : α → Prop} (h : W f Q) : W f fun _ => True := h.mp fun _ _ => trivial

theorem w_law06_Own (l : List schema_Type) (h : small l) : W (fun N => s_law06_Own N l) fun r => r = l := by
  have h12 := h.1
  refine wf2a (l := l) (fun pre ys => ys = pre) [] rfl rfl (by omega) rfl ?_ ?_
  · rintro F pre t rest ys hl h1 h2 h3 rfl hn
    have ht := (h.2 t (by rw [hl]; simp)).2.1
    have hp : ys.length ≤ 12 := by rw [hl, List.length_append] at h12; omega
    simp only [s_law06_Own_1, h1, h2, W.some, cond_true]
    refine wf3a (l := t.Fields) (fun pre' a b => a = ys ∧ b = pre') [] rfl rfl (by omega) ⟨rfl, rfl⟩ ?_ ?_
    · rintro F' pre' f rest' a b hl' k1 k2 k3 ⟨rfl, rfl⟩ hn'
      have : b.length ≤ 12 := by rw [hl', List.length_append] at ht; omega
      simp only [s_law06_Own_2, h1, h2, k1, k2, k3, W.some, cond_true, W.gd, Nat.ble_eq, true_and]
      exact ⟨by omega, hn' _ _ ⟨rfl, rfl⟩⟩
    · rintro F' a b k1 ⟨rfl, rfl⟩
      simp only [s_law06_Own_2, h1, h2, h3, k1, W.some, cond_false, W.gd, Nat.ble_eq, true_and]
      exact ⟨by omega, (hn _ rfl).lift⟩
  · rintro F ys h1 rfl
    simp only [s_law06_Own_1, h1, cond_false, W.ret]

theorem w_law06_Vals (l : List value_Value) (h12 : l.length ≤ 12) : W (fun N => s_law06_Vals N l) fun r => r = l := by
  refine wf2a (l := l) (fun pre ys => ys = pre) [] rfl rfl (by omega) rfl ?_ ?_
  · rintro F pre t rest ys hl h1 h2 h3 rfl hn
    have : ys.length ≤ 12 := by rw [hl, List.length_append] at h12; omega
    simp only [s_law06_Vals_1, h1, h2, h3, W.some, cond_true, W.gd, Nat.ble_eq, true_and]
    exact ⟨by omega, hn _ rfl⟩
  · rintro F ys h1 rfl
    simp only [s_law06_Vals_1, h1, cond_false, W.ret]
theorem w_law04_Small (v : value_Value) (hv : v.Text.length ≤ 9223372036854775807) : W (fun N => s_law04_Small N v) fun _ => True := by simp only [s_law04_Small, W.gd, W.ret, i64b_eq, and_true]; omega
theorem wid {ι : Type} [Lim ι] {α : Type} {f : ι → Option α} {Q : α → Prop} : W (fun i => (f i).bind fun a => some a) Q ↔ W f Q := by
  have : (fun i => (f i).bind fun a => some a) = f := by funext i; cases f i <;> rfl
  rw [this]
end Go.Proofs.YtabploamljmibaaDoor.W
namespace Go.Proofs.YtabploamljmibaaDoor.W
open Go
set_option linter.unusedSimpArgs false
set_option linter.unusedVariables false
set_option maxRecDepth 100000

theorem awake_at (n : Nat) : s_law06_awake (n + 60) = some true := by kernel_rfl
theorem w_awake : W (fun N => s_law06_awake N) fun r => r = true := ⟨true, ⟨60, fun N hN => by
  obtain ⟨n, rfl⟩ : ∃ n, N = n + 60 := ⟨N - 60, by omega⟩
  exact awake_at n⟩, rfl⟩
theorem full_SchemaFits (t : schema_Type) (l : List value_Value) (ht : ok_schema_Type t) (hl : okL ok_value_Value l) : W (fun N => s_law06_SchemaFits N t l) (· = true) := by
  have aw : ∀ {ι : Type} [Lim ι] (N : ι → Nat) [Tends N], W (fun i => (s_law06_awake (N i)).bind fun a => some a) (· = true) := fun N => wid.2 (w_awake.of N)
  simp only [s_law06_SchemaFits]
  refine W.call (w_law06_Over [t]) fun b hb => ?_
  simp only [W.cond, ltB_iff, ltB_not]
  refine ⟨fun _ => aw _, fun h => ⟨fun _ => aw _, fun h12 => ?_⟩⟩
  have hs := hb (by omega)
  have hf := (hs.2 t (by simp)).2.1
  refine wf1 (l := l) (fun _ => True) [] rfl rfl (by omega) trivial ?_ ?_
  · intro F pre v rest hl' h1 h2 h3 _ hn
    have hv := hl.1 v (by rw [hl']; simp)
    simp only [s_law06_SchemaFits_1, h1, h2, Option.bind_some, cond_true]
    refine W.call (w_law04_Small v (okS_le hv.2.2.2)) fun b _ => ?_
    simp only [W.cond, W.gd, h3, true_and, hn trivial, implies_true, and_true]
    exact fun _ => aw _
  · intro F h1 _
    simp only [s_law06_SchemaFits_1, h1, cond_false]
    refine W.call (w_law06_Own [t] hs) ?_
    rintro _ rfl
    simp only [show ix [t] 0 = some t from rfl, Option.bind_some]
    refine W.call (w_law06_Vals l (by omega)) ?_
    rintro _ rfl
    refine W.call (w_schema_Fits t _ (by omega)) ?_
    rintro _ rfl
    refine W.call (w_ref06_Fits t _ (by omega) fun v hv => inK_u64 (hl.1 v hv).2.2.1) ?_
    rintro _ rfl
    simp only [BEq.rfl, cond_true]
    exact aw _
end Go.Proofs.YtabploamljmibaaDoor.W
