/- What the law is handed, told as what its plain text takes. No premise beyond what each theorem says. -/
import Derived.Test.YtbanfalnbhcknaaGreatDoorYG2
import Derived.Test.YtbanfalnbhcknaaGreatDoorYA2
import Derived.Test.YtbanfalnbhcknaaGreatDoorYA4
import Derived.Test.YtbanfalnbhcknaaGreatDoorYG1
set_option linter.all false
set_option linter.unusedSimpArgs false
set_option linter.unusedVariables false
namespace Go.Proofs.YtbanfalnbhcknaaGreatDoor.Y
open Go
section
open Go.Proofs.Tryz
set_option maxRecDepth 1000000
def ok_value_Value (x : value_Value) : Prop := (inK .u8) x.Kind ∧ (inK .i64) x.N ∧ (inK .u64) x.Bits ∧ okS x.Text
def ok_pred_Node (x : pred_Node) : Prop := (inK .u8) x.Kind ∧ (inK .u8) x.Op ∧ okS x.Var ∧ okS x.Name ∧ ok_value_Value x.Val
theorem d_law20_JudgeAhead_t5 {H : Type} (d : DataW H) (cs : List AV) (h : DAv prog 5 d cs) : ∃ x : Int, cs = [.v (.int .u8 x)] ∧ (inK .u8) x := by
  obtain ⟨x, h, h1, h2⟩ := dv_int (k := .u8) (by kernel_rfl) h
  exact ⟨x, h, h1, h2⟩
theorem d_law20_JudgeAhead_t9 {H : Type} (d : DataW H) (cs : List AV) (h : DAv prog 9 d cs) : ∃ x : List UInt8, cs = [.v (.string (bs x))] ∧ okS x := by
  obtain ⟨x, h, h1⟩ := dv_string (by kernel_rfl) h
  exact ⟨x, h, h1⟩
theorem d_law20_JudgeAhead_t3 {H : Type} (d : DataW H) (cs : List AV) (h : DAv prog 3 d cs) : ∃ x : Int, cs = [.v (.int .i64 x)] ∧ (inK .i64) x := by
  obtain ⟨x, h, h1, h2⟩ := dv_int (k := .i64) (by kernel_rfl) h
  exact ⟨x, h, h1, h2⟩
theorem d_law20_JudgeAhead_t46 {H : Type} (d : DataW H) (cs : List AV) (h : DAv prog 46 d cs) : ∃ x : Int, cs = [.v (.int .u64 x)] ∧ (inK .u64) x := by
  obtain ⟨x, h, h1, h2⟩ := dv_int (k := .u64) (by kernel_rfl) h
  exact ⟨x, h, h1, h2⟩
theorem d_law20_JudgeAhead_t54 {H : Type} (d : DataW H) (cs : List AV) (h : DAv prog 54 d cs) : ∃ x : value_Value, cs = [.v (.int .u8 x.Kind), .v (.int .i64 x.N), .v (.int .u64 x.Bits), .v (.string (bs x.Text))] ∧ ok_value_Value x := by
  obtain ⟨_, h⟩ := dv_struct (ts := [5, 3, 46, 9]) (by kernel_rfl) h
  obtain ⟨_, _, _, _, rfl, h0, h⟩ := dvs_cons h
  obtain ⟨_, _, _, _, rfl, h1, h⟩ := dvs_cons h
  obtain ⟨_, _, _, _, rfl, h2, h⟩ := dvs_cons h
  obtain ⟨_, _, _, _, rfl, h3, h⟩ := dvs_cons h
  obtain rfl := dvs_nil h
  obtain ⟨x0, rfl, k0⟩ := d_law20_JudgeAhead_t5 _ _ h0
  obtain ⟨x1, rfl, k1⟩ := d_law20_JudgeAhead_t3 _ _ h1
  obtain ⟨x2, rfl, k2⟩ := d_law20_JudgeAhead_t46 _ _ h2
  obtain ⟨x3, rfl, k3⟩ := d_law20_JudgeAhead_t9 _ _ h3
  exact ⟨⟨x0, x1, x2, x3⟩, rfl, ⟨k0, k1, k2, k3⟩⟩
theorem d_law20_JudgeAhead_t71 {H : Type} (d : DataW H) (cs : List AV) (h : DAv prog 71 d cs) : ∃ x : pred_Node, cs = [.v (.int .u8 x.Kind), .v (.int .u8 x.Op), .v (.string (bs x.Var)), .v (.string (bs x.Name)), .v (.int .u8 x.Val.Kind), .v (.int .i64 x.Val.N), .v (.int .u64 x.Val.Bits), .v (.string (bs x.Val.Text))] ∧ ok_pred_Node x := by
  obtain ⟨_, h⟩ := dv_struct (ts := [5, 5, 9, 9, 54]) (by kernel_rfl) h
  obtain ⟨_, _, _, _, rfl, h0, h⟩ := dvs_cons h
  obtain ⟨_, _, _, _, rfl, h1, h⟩ := dvs_cons h
  obtain ⟨_, _, _, _, rfl, h2, h⟩ := dvs_cons h
  obtain ⟨_, _, _, _, rfl, h3, h⟩ := dvs_cons h
  obtain ⟨_, _, _, _, rfl, h4, h⟩ := dvs_cons h
  obtain rfl := dvs_nil h
  obtain ⟨x0, rfl, k0⟩ := d_law20_JudgeAhead_t5 _ _ h0
  obtain ⟨x1, rfl, k1⟩ := d_law20_JudgeAhead_t5 _ _ h1
  obtain ⟨x2, rfl, k2⟩ := d_law20_JudgeAhead_t9 _ _ h2
  obtain ⟨x3, rfl, k3⟩ := d_law20_JudgeAhead_t9 _ _ h3
  obtain ⟨x4, rfl, k4⟩ := d_law20_JudgeAhead_t54 _ _ h4
  exact ⟨⟨x0, x1, x2, x3, x4⟩, rfl, ⟨k0, k1, k2, k3, k4⟩⟩
theorem d_law20_JudgeAhead_t22 {H : Type} (d : DataW H) (cs : List AV) (h : DAv prog 22 d cs) : ∃ x : List pred_Node, cs = [.sl 8 (List.map eA4 x)] ∧ (okL ok_pred_Node) x := by
  obtain ⟨x, h, h1, h2⟩ := dv_slice (e := 71) (k := 8) eA4 ok_pred_Node (by kernel_rfl) (by kernel_rfl) (fun d cs h => by obtain ⟨x, h1, h2⟩ := d_law20_JudgeAhead_t71 d cs h; subst h1; exact ⟨x, mkE_agg (by kernel_rfl), h2⟩) h
  exact ⟨x, h, h1, h2⟩
def ok_schema_Field (x : schema_Field) : Prop := okS x.Name ∧ (inK .u8) x.Kind
def ok_schema_Type (x : schema_Type) : Prop := okS x.Name ∧ (okL ok_schema_Field) x.Fields
def ok_event_Event (x : event_Event) : Prop := (inK .i64) x.Time ∧ (inK .i64) x.Source ∧ (inK .i64) x.Seq ∧ okS x.Type_ ∧ (okL ok_value_Value) x.Vals
def ok_bind_Pair (x : bind_Pair) : Prop := okS x.Var ∧ ok_event_Event x.E
def ok_ref20_Scene (x : ref20_Scene) : Prop := (okL ok_schema_Type) x.Types ∧ (okL ok_bind_Pair) x.Bound ∧ ok_event_Event x.E
theorem d_law20_JudgeAhead_t87 {H : Type} (d : DataW H) (cs : List AV) (h : DAv prog 87 d cs) : ∃ x : schema_Field, cs = [.v (.string (bs x.Name)), .v (.int .u8 x.Kind)] ∧ ok_schema_Field x := by
  obtain ⟨_, h⟩ := dv_struct (ts := [9, 5]) (by kernel_rfl) h
  obtain ⟨_, _, _, _, rfl, h0, h⟩ := dvs_cons h
  obtain ⟨_, _, _, _, rfl, h1, h⟩ := dvs_cons h
  obtain rfl := dvs_nil h
  obtain ⟨x0, rfl, k0⟩ := d_law20_JudgeAhead_t9 _ _ h0
  obtain ⟨x1, rfl, k1⟩ := d_law20_JudgeAhead_t5 _ _ h1
  exact ⟨⟨x0, x1⟩, rfl, ⟨k0, k1⟩⟩
theorem d_law20_JudgeAhead_t79 {H : Type} (d : DataW H) (cs : List AV) (h : DAv prog 79 d cs) : ∃ x : List schema_Field, cs = [.sl 2 (List.map eA2 x)] ∧ (okL ok_schema_Field) x := by
  obtain ⟨x, h, h1, h2⟩ := dv_slice (e := 87) (k := 2) eA2 ok_schema_Field (by kernel_rfl) (by kernel_rfl) (fun d cs h => by obtain ⟨x, h1, h2⟩ := d_law20_JudgeAhead_t87 d cs h; subst h1; exact ⟨x, mkE_agg (by kernel_rfl), h2⟩) h
  exact ⟨x, h, h1, h2⟩
theorem d_law20_JudgeAhead_t81 {H : Type} (d : DataW H) (cs : List AV) (h : DAv prog 81 d cs) : ∃ x : schema_Type, cs = [.v (.string (bs x.Name)), .sl 2 (List.map eA2 x.Fields)] ∧ ok_schema_Type x := by
  obtain ⟨_, h⟩ := dv_struct (ts := [9, 79]) (by kernel_rfl) h
  obtain ⟨_, _, _, _, rfl, h0, h⟩ := dvs_cons h
  obtain ⟨_, _, _, _, rfl, h1, h⟩ := dvs_cons h
  obtain rfl := dvs_nil h
  obtain ⟨x0, rfl, k0⟩ := d_law20_JudgeAhead_t9 _ _ h0
  obtain ⟨x1, rfl, k1⟩ := d_law20_JudgeAhead_t79 _ _ h1
  exact ⟨⟨x0, x1⟩, rfl, ⟨k0, k1⟩⟩
theorem d_law20_JudgeAhead_t23 {H : Type} (d : DataW H) (cs : List AV) (h : DAv prog 23 d cs) : ∃ x : List schema_Type, cs = [.sl 2 (List.map eA3 x)] ∧ (okL ok_schema_Type) x := by
  obtain ⟨x, h, h1, h2⟩ := dv_slice (e := 81) (k := 2) eA3 ok_schema_Type (by kernel_rfl) (by kernel_rfl) (fun d cs h => by obtain ⟨x, h1, h2⟩ := d_law20_JudgeAhead_t81 d cs h; subst h1; exact ⟨x, mkE_agg (by kernel_rfl), h2⟩) h
  exact ⟨x, h, h1, h2⟩
theorem d_law20_JudgeAhead_t25 {H : Type} (d : DataW H) (cs : List AV) (h : DAv prog 25 d cs) : ∃ x : List value_Value, cs = [.sl 4 (List.map eA0 x)] ∧ (okL ok_value_Value) x := by
  obtain ⟨x, h, h1, h2⟩ := dv_slice (e := 54) (k := 4) eA0 ok_value_Value (by kernel_rfl) (by kernel_rfl) (fun d cs h => by obtain ⟨x, h1, h2⟩ := d_law20_JudgeAhead_t54 d cs h; subst h1; exact ⟨x, mkE_agg (by kernel_rfl), h2⟩) h
  exact ⟨x, h, h1, h2⟩
theorem d_law20_JudgeAhead_t27 {H : Type} (d : DataW H) (cs : List AV) (h : DAv prog 27 d cs) : ∃ x : event_Event, cs = [.v (.int .i64 x.Time), .v (.int .i64 x.Source), .v (.int .i64 x.Seq), .v (.string (bs x.Type_)), .sl 4 (List.map eA0 x.Vals)] ∧ ok_event_Event x := by
  obtain ⟨_, h⟩ := dv_struct (ts := [3, 3, 3, 9, 25]) (by kernel_rfl) h
  obtain ⟨_, _, _, _, rfl, h0, h⟩ := dvs_cons h
  obtain ⟨_, _, _, _, rfl, h1, h⟩ := dvs_cons h
  obtain ⟨_, _, _, _, rfl, h2, h⟩ := dvs_cons h
  obtain ⟨_, _, _, _, rfl, h3, h⟩ := dvs_cons h
  obtain ⟨_, _, _, _, rfl, h4, h⟩ := dvs_cons h
  obtain rfl := dvs_nil h
  obtain ⟨x0, rfl, k0⟩ := d_law20_JudgeAhead_t3 _ _ h0
  obtain ⟨x1, rfl, k1⟩ := d_law20_JudgeAhead_t3 _ _ h1
  obtain ⟨x2, rfl, k2⟩ := d_law20_JudgeAhead_t3 _ _ h2
  obtain ⟨x3, rfl, k3⟩ := d_law20_JudgeAhead_t9 _ _ h3
  obtain ⟨x4, rfl, k4⟩ := d_law20_JudgeAhead_t25 _ _ h4
  exact ⟨⟨x0, x1, x2, x3, x4⟩, rfl, ⟨k0, k1, k2, k3, k4⟩⟩
theorem d_law20_JudgeAhead_t89 {H : Type} (d : DataW H) (cs : List AV) (h : DAv prog 89 d cs) : ∃ x : bind_Pair, cs = [.v (.string (bs x.Var)), .v (.int .i64 x.E.Time), .v (.int .i64 x.E.Source), .v (.int .i64 x.E.Seq), .v (.string (bs x.E.Type_)), .sl 4 (List.map eA0 x.E.Vals)] ∧ ok_bind_Pair x := by
  obtain ⟨_, h⟩ := dv_struct (ts := [9, 27]) (by kernel_rfl) h
  obtain ⟨_, _, _, _, rfl, h0, h⟩ := dvs_cons h
  obtain ⟨_, _, _, _, rfl, h1, h⟩ := dvs_cons h
  obtain rfl := dvs_nil h
  obtain ⟨x0, rfl, k0⟩ := d_law20_JudgeAhead_t9 _ _ h0
  obtain ⟨x1, rfl, k1⟩ := d_law20_JudgeAhead_t27 _ _ h1
  exact ⟨⟨x0, x1⟩, rfl, ⟨k0, k1⟩⟩
theorem d_law20_JudgeAhead_t24 {H : Type} (d : DataW H) (cs : List AV) (h : DAv prog 24 d cs) : ∃ x : List bind_Pair, cs = [.sl 6 (List.map eA1 x)] ∧ (okL ok_bind_Pair) x := by
  obtain ⟨x, h, h1, h2⟩ := dv_slice (e := 89) (k := 6) eA1 ok_bind_Pair (by kernel_rfl) (by kernel_rfl) (fun d cs h => by obtain ⟨x, h1, h2⟩ := d_law20_JudgeAhead_t89 d cs h; subst h1; exact ⟨x, mkE_agg (by kernel_rfl), h2⟩) h
  exact ⟨x, h, h1, h2⟩
theorem d_law20_JudgeAhead_t29 {H : Type} (d : DataW H) (cs : List AV) (h : DAv prog 29 d cs) : ∃ x : ref20_Scene, cs = [.sl 2 (List.map eA3 x.Types), .sl 6 (List.map eA1 x.Bound), .v (.int .i64 x.E.Time), .v (.int .i64 x.E.Source), .v (.int .i64 x.E.Seq), .v (.string (bs x.E.Type_)), .sl 4 (List.map eA0 x.E.Vals)] ∧ ok_ref20_Scene x := by
  obtain ⟨_, h⟩ := dv_struct (ts := [23, 24, 27]) (by kernel_rfl) h
  obtain ⟨_, _, _, _, rfl, h0, h⟩ := dvs_cons h
  obtain ⟨_, _, _, _, rfl, h1, h⟩ := dvs_cons h
  obtain ⟨_, _, _, _, rfl, h2, h⟩ := dvs_cons h
  obtain rfl := dvs_nil h
  obtain ⟨x0, rfl, k0⟩ := d_law20_JudgeAhead_t23 _ _ h0
  obtain ⟨x1, rfl, k1⟩ := d_law20_JudgeAhead_t24 _ _ h1
  obtain ⟨x2, rfl, k2⟩ := d_law20_JudgeAhead_t27 _ _ h2
  exact ⟨⟨x0, x1, x2⟩, rfl, ⟨k0, k1, k2⟩⟩
theorem d_law20_JudgeAhead {H : Type} (ds : List (DataW H)) (xs : List AV) (h : DAvV prog [22, 29, 3] ds xs) :
    ∃ (l : List pred_Node) (s : ref20_Scene) (k : Int), xs = [.sl 8 (List.map eA4 l), .agg [.sl 2 (List.map eA3 s.Types), .sl 6 (List.map eA1 s.Bound), .v (.int .i64 s.E.Time), .v (.int .i64 s.E.Source), .v (.int .i64 s.E.Seq), .v (.string (bs s.E.Type_)), .sl 4 (List.map eA0 s.E.Vals)], .v (.int .i64 k)] ∧ (okL ok_pred_Node) l ∧ ok_ref20_Scene s ∧ (inK .i64) k := by
  obtain ⟨_, _, _, _, rfl, rfl, h0, h⟩ := dvv_cons h
  obtain ⟨_, _, _, _, rfl, rfl, h1, h⟩ := dvv_cons h
  obtain ⟨_, _, _, _, rfl, rfl, h2, h⟩ := dvv_cons h
  obtain ⟨rfl, rfl⟩ := dvv_nil h
  obtain ⟨x0, rfl, k0⟩ := d_law20_JudgeAhead_t22 _ _ h0
  obtain ⟨x1, rfl, k1⟩ := d_law20_JudgeAhead_t29 _ _ h1
  obtain ⟨x2, rfl, k2⟩ := d_law20_JudgeAhead_t3 _ _ h2
  exact ⟨x0, x1, x2, by rw [mkE_one (by kernel_rfl), mkE_agg (by kernel_rfl), mkE_one (by kernel_rfl)], k0, k1, k2⟩
end
section
section
theorem wall {α : Type} {f : Nat → Option α} {a : α} (h : ∀ N, f N = some a) : W f (· = a) := ⟨a, ⟨0, fun N _ => h N⟩, rfl⟩
end
section
def small (l : List schema_Type) : Prop := l.length ≤ 12 ∧ ∀ t ∈ l, t.Name.length ≤ 40 ∧ t.Fields.length ≤ 12 ∧ ∀ f ∈ t.Fields, f.Name.length ≤ 40
theorem w_law06_Over (l : List schema_Type) : W (fun N => s_law06_Over N l) fun r => ¬ 0 < r → small l := by
  simp only [s_law06_Over, W.cond, W.ret, ltB_iff, ltB_not]
  refine ⟨by omega, fun hl => ?_⟩
  refine wf1 (l := l) (fun pre => ∀ t ∈ pre, t.Name.length ≤ 40 ∧ t.Fields.length ≤ 12 ∧ ∀ f ∈ t.Fields, f.Name.length ≤ 40) [] rfl rfl (by omega) (by simp) ?_ ?_
  · intro F pre t rest hl h1 h2 h3 hp hn
    simp only [s_law06_Over_1, h1, h2, W.some, W.cond, W.ret, ltB_iff, ltB_not]
    refine ⟨fun _ => ⟨by omega, fun hn1 => ⟨by omega, fun hn2 => ?_⟩⟩, by simp⟩
    refine wf1 (l := t.Fields) (fun pre => ∀ f ∈ pre, f.Name.length ≤ 40) [] rfl rfl (by omega) (by simp) ?_ ?_
    · intro F' pre' f rest' hl' k1 k2 k3 hp' hn'
      simp only [s_law06_Over_2, h1, h2, k1, k2, k3, W.some, W.cond, W.ret, gd_true, ltB_iff, ltB_not]
      refine ⟨fun _ => ⟨by omega, fun hf => hn' ?_⟩, by simp⟩
      simp only [List.mem_append, List.mem_singleton]
      rintro f (h | rfl)
      · exact hp' f h
      · omega
    · intro F' k1 hp'
      simp only [s_law06_Over_2, h1, h2, h3, k1, W.some, W.cond, W.ret, gd_true]
      refine ⟨by simp, fun _ => (hn ?_).lift⟩
      simp only [List.mem_append, List.mem_singleton]
      rintro t (h | rfl)
      · exact hp t h
      · exact ⟨by omega, by omega, hp'⟩
  · intro F h1 hp
    simp only [s_law06_Over_1, h1, W.some, W.cond, W.ret]
    exact ⟨by simp, fun _ _ => ⟨by omega, hp⟩⟩
theorem w_law06_Own (l : List schema_Type) (h : small l) : W (fun N => s_law06_Own N l) fun r => r = l := by
  have h12 := h.1
  refine wf2a (l := l) (fun pre ys => ys = pre) [] rfl rfl (by omega) rfl ?_ ?_
  · rintro F pre t rest ys hl h1 h2 h3 rfl hn
    have ht := (h.2 t (by rw [hl]; simp)).2.1
    have hp : ys.length ≤ 12 := by rw [hl, List.length_append] at h12; omega
    simp only [s_law06_Own_1, h1, h2, W.some, cond_true]
    refine wf3a (l := t.Fields) (fun pre' a b => a = ys ∧ b = pre') [] rfl rfl (by omega) ⟨rfl, rfl⟩ ?_ ?_
    · rintro F' pre' f rest' a b hl' k1 k2 k3 ⟨rfl, rfl⟩ hn'
      have : b.length ≤ 12 := by rw [hl', List.length_append] at ht; omega
      simp only [s_law06_Own_2, h1, h2, k1, k2, k3, W.some, cond_true, W.gd, Nat.ble_eq, true_and]
      exact ⟨by omega, hn' _ _ ⟨rfl, rfl⟩⟩
    · rintro F' a b k1 ⟨rfl, rfl⟩
      simp only [s_law06_Own_2, h1, h2, h3, k1, W.some, cond_false, W.gd, Nat.ble_eq, true_and]
      exact ⟨by omega, (hn _ rfl).lift⟩
  · rintro F ys h1 rfl
    simp only [s_law06_Own_1, h1, cond_false, W.ret]
end
section
theorem ncmp (a : Int) : compare a a = .eq := by simp [compare, compareOfLessAndEq]
theorem bcmp (a : Bool) : compare a.toNat a.toNat = .eq := by simp [compare, compareOfLessAndEq]
theorem nan_iff (n : Nat) : fcmpB .neq .f64 n n = decide (9218868437227405312 < n % 9223372036854775808) := by
  have h : FloatKind.f64.format = Ieee.double := rfl
  simp only [fcmpB, h, Ieee.Format.order, Ieee.Format.read]
  have e1 : Ieee.double.signWeight = 9223372036854775808 := by decide
  have e2 : Ieee.double.infRung = 9218868437227405312 := by decide
  have e3 : Ieee.double.binade = 4503599627370496 := by decide
  rw [e1, e2, e3]
  by_cases h1 : n % 9223372036854775808 < 4503599627370496
  · rw [if_pos h1, decide_eq_false (by omega)]; simp only [Ieee.Datum.order, ncmp]; rfl
  · by_cases h2 : n % 9223372036854775808 < 9218868437227405312
    · rw [if_neg h1, if_pos h2, decide_eq_false (by omega)]; simp only [Ieee.Datum.order, ncmp]; rfl
    · by_cases h3 : n % 9223372036854775808 = 9218868437227405312
      · rw [if_neg h1, if_neg h2, if_pos h3, decide_eq_false (by omega)]; simp only [Ieee.Datum.order, bcmp]; rfl
      · rw [if_neg h1, if_neg h2, if_neg h3, decide_eq_true (by omega)]; rfl
def cln (u : Int) : Int := if 9218868437227405312 < u.toNat % 9223372036854775808 then 9221120237041090560 else u
theorem e_real_Clean (u : Int) (N : Nat) : s_real_Clean N u = some (cln u) := by
  simp only [s_real_Clean, s_real_of, Option.bind_some, nan_iff, cln, decide_eq_true_eq, Bool.cond_eq_ite]
  split <;> rfl
def vchk (v : value_Value) : Int :=
  if v.Kind = 1 then (if v.N < -4611686018427387904 ∨ 4611686018427387904 < v.N then 8 else if v.Bits = 0 ∧ v.Text = [] then 0 else 2)
  else if v.Kind = 2 then (if v.N < 0 ∨ 1 < v.N then 8 else if v.Bits = 0 ∧ v.Text = [] then 0 else 2)
  else if v.Kind = 3 then (if cln v.Bits ≠ v.Bits then 4 else if v.N = 0 ∧ v.Text = [] then 0 else 2)
  else if v.Kind = 4 then (if 24 < v.Text.length then 5 else if v.N = 0 ∧ v.Bits = 0 then 0 else 2)
  else 11
theorem e_value_Check (v : value_Value) (N : Nat) : s_value_Check N v = some (vchk v) := by
  have hc := e_real_Clean v.Bits N
  simp only [s_value_Check, s_value_core, vchk, Bool.cond_eq_ite, bothN_eq]
  by_cases k1 : v.Kind = 1
  · simp [k1, s_value_number_whole, ltB_iff]; repeat' split
    all_goals first | rfl | (exfalso; omega) | simp_all [eq_comm]
  · by_cases k2 : v.Kind = 2
    · simp [k2, s_value_flag_whole]; repeat' split
      all_goals first | rfl | (exfalso; omega) | simp_all [eq_comm]
    · by_cases k3 : v.Kind = 3
      · simp [k3, s_value_double_whole, hc]; repeat' split
        all_goals first | rfl | (exfalso; omega) | simp_all [eq_comm]
      · by_cases k4 : v.Kind = 4
        · simp [k4, s_value_words_whole, ltB_iff]; repeat' split
          all_goals first | rfl | (exfalso; omega) | simp_all [eq_comm]
        · simp [k1, k2, k3, k4]
end
section
def nResl : List (List UInt8) := [[119, 105, 116, 104, 105, 110], [98, 121], [97, 110, 100], [111, 114], [110, 111, 116], [97, 110, 121], [110, 101, 120, 116], [115, 116, 114, 105, 99, 116], [116, 114, 117, 101], [102, 97, 108, 115, 101]]
def nResv (s : List UInt8) : Bool := nResl.any (s == ·)
theorem w_nSReserved (s : List UInt8) : W (fun N => s_schema_Reserved N s) (· = nResv s) := by
  refine wall fun N => ?_
  have e2 : ∀ (b r : Bool), (bif b then some true else some r) = some (b || r) := by intro b r; cases b <;> rfl
  unfold s_schema_Reserved
  have e3 : ∀ (b r r' : Bool), (bif b then some (b || r') else some r) = some (b || r) := by intro b r r'; cases b <;> rfl
  have e4 : ∀ (b r : Bool), (bif b then some b else some r) = some (b || r) := by intro b r; cases b <;> rfl
  simp only [nResv, nResl, List.any_cons, List.any_nil, e2, e3, e4, Bool.or_false]
def nLtr (c : UInt8) : Bool := leB 97 (c.toNat : Int) && leB (c.toNat : Int) 122
def nTl (c : UInt8) : Bool := nLtr c || (leB 48 (c.toNat : Int) && leB (c.toNat : Int) 57) || ((c.toNat : Int) == 95)
def nm : List UInt8 → Bool
  | [] => false
  | c :: t => !(ltB 12 ((c :: t).length : Int)) && (nLtr c && (!nResv (c :: t) && t.all nTl))
theorem e_schema_letter (c : UInt8) (N : Nat) : s_schema_letter N (c.toNat : Int) = some (nLtr c) := by
  simp only [s_schema_letter, nLtr]; cases leB 97 (c.toNat : Int) <;> rfl
theorem e_schema_tail (c : UInt8) (N : Nat) : s_schema_tail N (c.toNat : Int) = some (nTl c) := by
  simp only [s_schema_tail, e_schema_letter, Option.bind_some, nTl]
  cases nLtr c <;> cases leB 48 (c.toNat : Int) <;> cases leB (c.toNat : Int) 57 <;> rfl
theorem w_schema_Name (s : List UInt8) : W (fun N => s_schema_Name N s) (· = nm s) := by
  cases s with
  | nil => exact wall fun _ => rfl
  | cons c t =>
    simp only [s_schema_Name, show ((c :: t) == ([] : List UInt8)) = false from rfl, cond_false, W.cond, W.ret, show ix (c :: t) 0 = some c from rfl, Option.bind_some, e_schema_letter]
    refine ⟨fun h => by simp only [nm, h, Bool.not_true, Bool.false_and], fun h => ⟨fun h' => ?_, fun h' => ?_⟩⟩
    · have h' : nLtr c = false := by simpa using h'
      simp only [nm, h', Bool.false_and, Bool.and_false]
    have h' : nLtr c = true := by simpa using h'
    simp only [nm, h, h', Bool.not_false, Bool.true_and]
    refine W.call (w_nSReserved _) ?_
    rintro _ rfl
    simp only [W.cond, W.ret]
    refine ⟨fun h2 => by simp only [h2, Bool.not_true, Bool.false_and], fun h2 => ?_⟩
    simp only [h2, Bool.not_false, Bool.true_and]
    have hb := ltB_not.1 h
    refine wr1 (l := c :: t) (fun _ rest => rest.all nTl) [c] t rfl rfl (by omega) ?_ ?_
    · intro F pre e rest hl h1 h2 h3 hn
      simp only [s_schema_Name_1, h1, h2, h3, Option.bind_some, cond_true, e_schema_tail, W.cond, W.ret, gd_true, List.all_cons]
      refine ⟨fun h => ?_, fun h => ?_⟩
      · have h : nTl e = false := by simpa using h
        simp only [h, Bool.false_and]
      · have h : nTl e = true := by simpa using h
        simp only [h, Bool.true_and]; exact hn
    · intro F h1
      simp only [s_schema_Name_1, h1, cond_false, W.ret, List.all_nil]
end
section
def zT : lex_Token := ⟨0, 0, [], ⟨0, 0, 0, []⟩⟩
/-- The token at a place; one of no kind behind the last. -/
def tk (y : List lex_Token) (i : Nat) : lex_Token := y[i]?.getD zT
end
section
theorem W.shift {α : Type} {f : Nat → Option α} {Q : α → Prop} (h : W (fun N => f (N + 1)) Q) : W f Q := by
  obtain ⟨a, ⟨n, hn⟩, hq⟩ := h
  refine ⟨a, ⟨n + 1, fun N hN => ?_⟩, hq⟩
  obtain ⟨M, rfl⟩ : ∃ M, N = M + 1 := ⟨N - 1, by omega⟩
  exact hn M (by omega)
def bn (k : Int) : pred_Node := ⟨k, 0, [], [], ⟨0, 0, 0, []⟩⟩
end
section
def sgV (v : Int) : List UInt8 := if v = 1 then [61] else if v = 2 then [33, 61] else if v = 3 then [60] else if v = 4 then [60, 61] else if v = 5 then [62] else [62, 61]
end
section
def bad (n : pred_Node) : Bool :=
  bif n.Kind == 4 then !(leB 1 n.Op && leB n.Op 6)
  else bif n.Kind == 7 then !nm n.Name
  else bif n.Kind == 8 then (!nm n.Name) || (!nm n.Var)
  else bif n.Kind == 9 then vchk n.Val != 0
  else false
def nds (n : pred_Node) : Int := bif bad n then 4 else bif moreB n then 2 else 0
theorem sign_nil (v : Int) (N : Nat) : ∃ s, s_compare_Sign N v = some s ∧ (s == []) = !(leB 1 v && leB v 6) := by
  by_cases h : 1 ≤ v ∧ v ≤ 6
  · have h6 : v = 1 ∨ v = 2 ∨ v = 3 ∨ v = 4 ∨ v = 5 ∨ v = 6 := by omega
    rcases h6 with rfl | rfl | rfl | rfl | rfl | rfl <;> exact ⟨_, rfl, rfl⟩
  · refine ⟨[], ?_, ?_⟩
    · have e : ∀ k : Int, 1 ≤ k ∧ k ≤ 6 → (v == k) = false := fun k hk => by
        rw [beq_eq_false_iff_ne]; intro he; subst he; exact h hk
      simp only [s_compare_Sign, e 1 (by omega), e 2 (by omega), e 3 (by omega), e 4 (by omega), e 5 (by omega), e 6 (by omega), cond_false]
    · rw [leB_eq, leB_eq]
      have : ¬ (1 ≤ v ∧ v ≤ 6) := h
      by_cases h1 : 1 ≤ v
      · have : ¬ v ≤ 6 := fun h2 => h ⟨h1, h2⟩
        simp [h1, this]
      · simp [h1]
theorem w_lacks (n : pred_Node) : W (fun N => s_pred_Node_lacks N n) (· = bad n) := by
  obtain ⟨k, op, va, na, v⟩ := n
  simp only [s_pred_Node_lacks, bad]
  by_cases h4 : k = 4
  · subst h4
    have e : ∀ N, ((s_compare_Sign N op).bind fun sign => some (sign == [])) = some (!(leB 1 op && leB op 6)) := fun N => by
      obtain ⟨s, hs, h⟩ := sign_nil op N
      rw [hs, Option.bind_some, h]
    simp only [show ((4 : Int) == 4) = true from rfl, cond_true, e, W.ret]
  simp only [show (k == 4) = false by simpa using h4, cond_false]
  by_cases h7 : k = 7
  · subst h7
    simp only [show ((7 : Int) == 7) = true from rfl, cond_true]
    refine W.call (w_schema_Name na) ?_
    rintro _ rfl
    simp only [W.ret]
  simp only [show (k == 7) = false by simpa using h7, cond_false]
  by_cases h8 : k = 8
  · subst h8
    simp only [show ((8 : Int) == 8) = true from rfl, cond_true]
    refine W.call (w_schema_Name na) ?_
    rintro _ rfl
    cases hn : nm na with
    | false => simp [W.ret]
    | true =>
      simp only [Bool.not_true, cond_false]
      refine W.call (w_schema_Name va) ?_
      rintro _ rfl
      simp [W.ret]
  simp only [show (k == 8) = false by simpa using h8, cond_false]
  by_cases h9 : k = 9
  · subst h9
    simp only [show ((9 : Int) == 9) = true from rfl, cond_true, e_value_Check, Option.bind_some, W.ret]
  simp only [show (k == 9) = false by simpa using h9, cond_false, W.ret]
end
section
def kdN (k : Int) : Int := if k = 1 ∨ k = 2 ∨ k = 4 ∨ k = 5 ∨ k = 6 then 2 else if k = 3 then 1 else 0
def kdW (k : Int) (x : Int) : Int := if k ≤ 3 then 0 else if k = 4 then 1 else if x = 0 then 1 else 2
def stB (k w : Int) : Bool := bif w == 0 then leB 1 k && leB k 4 else bif w == 1 then leB 5 k && leB k 9 else leB 7 k && leB k 9
abbrev TF := Int → Int → Nat → Int × Nat
def kids (p : TF) (k d : Int) (i : Nat) : Int × Nat :=
  if kdN k = 0 then (0, i)
  else if (p (kdW k 0) (d + 1) i).1 ≠ 0 ∨ kdN k = 1 then p (kdW k 0) (d + 1) i
  else p (kdW k 1) (d + 1) (p (kdW k 0) (d + 1) i).2
def trS (l : List pred_Node) (p : TF) : TF := fun w d i =>
  match l[i]? with
  | none => (3, i)
  | some n => if 16 ≤ d then (15, i) else if stB n.Kind w = false then (11, i) else if nds n ≠ 0 then (nds n, i) else kids p n.Kind d (i + 1)
def TR (l : List pred_Node) : Nat → TF
  | 0 => fun _ _ i => (3, i)
  | n + 1 => trS l (TR l n)
theorem e_kids (k : Int) (N : Nat) : s_pred_Kids N k = some (kdN k) := by
  simp only [s_pred_Kids, kdN]
  by_cases h1 : k = 1
  · subst h1; rfl
  by_cases h2 : k = 2
  · subst h2; rfl
  by_cases h4 : k = 4
  · subst h4; rfl
  by_cases h5 : k = 5
  · subst h5; rfl
  by_cases h6 : k = 6
  · subst h6; rfl
  simp only [show (k == 1) = false by simpa using h1, show (k == 2) = false by simpa using h2, show (k == 4) = false by simpa using h4, show (k == 5) = false by simpa using h5, show (k == 6) = false by simpa using h6, cond_false, h1, h2, h4, h5, h6, false_or, if_false]
  by_cases h3 : k = 3
  · subst h3; rfl
  · simp [h3, show (k == 3) = false by simpa using h3]
theorem e_kid (n : pred_Node) (x : Int) (N : Nat) : s_pred_Node_kid N n x = some (kdW n.Kind x) := by
  simp only [s_pred_Node_kid, kdW, leB_eq]
  by_cases h3 : n.Kind ≤ 3
  · simp [h3]
  · by_cases h4 : n.Kind = 4
    · simp [h4]
    · by_cases hx : x = 0
      · simp [h3, h4, hx, show (n.Kind == 4) = false by simpa using h4]
      · simp [h3, h4, hx, show (x == 0) = false by simpa using hx, show (n.Kind == 4) = false by simpa using h4]
theorem e_stands (n : pred_Node) (w : Int) (N : Nat) : s_pred_Node_stands N n w = some (stB n.Kind w) := by
  simp only [s_pred_Node_stands, stB]
  cases w == 0 <;> cases w == 1 <;> cases leB 1 n.Kind <;> cases leB 5 n.Kind <;> cases leB 7 n.Kind <;> simp
theorem kdN_b (k : Int) : 0 ≤ kdN k ∧ kdN k ≤ 2 := by
  unfold kdN
  repeat' split
  all_goals omega
theorem get_ix {l : List pred_Node} {i : Nat} : (leB (l.length : Int) (i : Int) = (l[i]?).isNone) ∧ ∀ n, l[i]? = some n → ix l (i : Int) = some n := by
  refine ⟨?_, fun n h => by rw [ix_nat', h]⟩
  rw [leB_eq, Bool.eq_iff_iff, decide_eq_true_iff, Option.isNone_iff_eq_none, List.getElem?_eq_none_iff]
  omega
theorem p_kids {l : List pred_Node} {p : TF} {n : pred_Node} {d : Int} {i : Nat} (hl : l.length ≤ 30) (hd0 : 0 ≤ d) (hd : d < 16) (hp : ∀ (w : Int) (j : Nat), W (fun N => (SS_pred_checker_tree_v739 N) w (d + 1) l j) (· = ((p w (d + 1) j).1, l, ((p w (d + 1) j).2 : Int)))) :
    W (fun N => lp3 (s_pred_checker_tree_v739_1 N (SS_pred_checker_tree_v739 N) d (kdN n.Kind) n.Kind n.Op n.Var n.Name n.Val.Kind n.Val.N n.Val.Bits n.Val.Text) N 0 l (i : Int)) (· = ((kids p n.Kind d i).1, l, ((kids p n.Kind d i).2 : Int))) := by
  have hb := kdN_b n.Kind
  refine W.lp3 (N := fun N => N) (fun x y j => y = l ∧ ((x = 0 ∧ j = (i : Int)) ∨ (x = 1 ∧ kdN n.Kind ≠ 0 ∧ (p (kdW n.Kind 0) (d + 1) i).1 = 0 ∧ j = ((p (kdW n.Kind 0) (d + 1) i).2 : Int)) ∨
    (x = 2 ∧ kdN n.Kind = 2 ∧ (p (kdW n.Kind 0) (d + 1) i).1 = 0 ∧ (p (kdW n.Kind 1) (d + 1) (p (kdW n.Kind 0) (d + 1) i).2).1 = 0 ∧ j = ((p (kdW n.Kind 1) (d + 1) (p (kdW n.Kind 0) (d + 1) i).2).2 : Int)))) (fun x _ _ => (3 - x).toNat) ⟨rfl, .inl ⟨rfl, rfl⟩⟩ ?_
  rintro F x y j ⟨rfl, h⟩ hn
  simp only [s_pred_checker_tree_v739_1, e_kid, Option.bind_some, W.cond, W.gd, ltB_iff, ltB_not, i64b_eq, W.ret]
  rcases h with ⟨rfl, rfl⟩ | ⟨rfl, h1, h2, rfl⟩ | ⟨rfl, h1, h2, h3, rfl⟩
  · refine ⟨fun hx => ⟨by omega, ?_⟩, fun hx => ?_⟩
    · refine W.bind (hp _ i).lift ?_
      rintro _ rfl
      simp only [W.cond, W.gd, W.ret, i64b_eq]
      refine ⟨fun h0 => ?_, fun h0 => ⟨by omega, hn _ _ _ ⟨rfl, .inr (.inl ⟨rfl, by omega, by simpa using h0, rfl⟩)⟩ (by omega)⟩⟩
      have h0 : (p (kdW n.Kind 0) (d + 1) i).1 ≠ 0 := by simpa using h0
      rw [kids, if_neg (by omega), if_pos (.inl h0)]
    · rw [kids, if_pos (by omega)]
  · refine ⟨fun hx => ⟨by omega, ?_⟩, fun hx => ?_⟩
    · refine W.bind (hp _ _).lift ?_
      rintro _ rfl
      simp only [W.cond, W.gd, W.ret, i64b_eq]
      refine ⟨fun h0 => ?_, fun h0 => ⟨by omega, hn _ _ _ ⟨rfl, .inr (.inr ⟨rfl, by omega, h2, by simpa using h0, rfl⟩)⟩ (by omega)⟩⟩
      rw [kids, if_neg (by omega), if_neg (by intro h; rcases h with h | h <;> omega)]
    · rw [kids, if_neg h1, if_pos (.inr (by omega))]
      rw [h2]
  · refine ⟨fun hx => by omega, fun hx => ?_⟩
    rw [kids, if_neg (by omega), if_neg (by intro h; rcases h with h | h <;> omega), h3]
end
section
def okN (l : List pred_Node) : Prop := ∀ n ∈ l, 0 ≤ n.Val.Bits ∧ n.Val.Bits ≤ 18446744073709551615
theorem nds_eq (n : pred_Node) : nds n = if bad n = true then 4 else if moreB n = true then 2 else 0 := by
  unfold nds
  cases bad n <;> cases moreB n <;> rfl
theorem p_tree {l : List pred_Node} (hl : l.length ≤ 30) : ∀ (n : Nat) (w d : Int) (i : Nat), 0 ≤ d → d ≤ 16 → 16 - d + 1 ≤ n → W (fun N => (SS_pred_checker_tree_v739 N) w d l i) (· = ((TR l n w d i).1, l, ((TR l n w d i).2 : Int)))
  | 0, w, d, i, h0, h1, h2 => by omega
  | n + 1, w, d, i, h0, h1, h2 => by
    refine W.shift ?_
    show W (fun N => b_pred_checker_tree_v739 N (SS_pred_checker_tree_v739 N) w d l i) _
    simp only [b_pred_checker_tree_v739, get_ix.1]
    show W _ (· = ((trS l (TR l n) w d i).1, l, ((trS l (TR l n) w d i).2 : Int)))
    unfold trS
    cases hg : l[i]? with
    | none => simp only [Option.isNone_none, cond_true, W.ret]
    | some nd =>
      have hi : i < 30 := by have := (List.getElem?_eq_some_iff.1 hg).1; omega
      simp only [Option.isNone_some, cond_false, get_ix.2 nd hg, Option.bind_some, leB_eq, e_stands]
      by_cases hd : 16 ≤ d
      · simp only [decide_eq_true hd, cond_true, if_pos hd, W.ret]
      simp only [decide_eq_false hd, cond_false, if_neg hd]
      cases hs : stB nd.Kind w with
      | false => simp only [Bool.not_false, cond_true, W.ret, if_true]
      | true =>
        simp only [Bool.not_true, cond_false, Bool.true_eq_false, if_false, s_pred_is_v782, s_pred_is_v272, s_pred_Node_more]
        refine W.bind (P := (· = if bad nd = true then (4 : Int) else 0)) ?_ ?_
        · refine W.call (w_lacks nd) ?_
          rintro _ rfl
          cases bad nd <;> simp [W.ret]
        rintro _ rfl
        rw [nds_eq]
        cases hb : bad nd with
        | true => simp [W.ret]
        | false =>
          cases hm : moreB nd with
          | true => simp [W.ret, hm]
          | false =>
            simp only [Bool.false_eq_true, if_false, show ((0 : Int) != 0) = false from rfl, cond_false, Option.bind_some, W.gd, i64b_eq, e_kids, ne_eq, not_true_eq_false]
            refine ⟨by omega, ?_⟩
            have := p_kids (l := l) (p := TR l n) (n := nd) (d := d) (i := i + 1) hl h0 (by omega) fun w j => p_tree hl n w (d + 1) j (by omega) (by omega) (by omega)
            simpa using this
def chk (l : List pred_Node) : Int := if 30 < l.length then 5 else if l.length = 0 then 0 else if (TR l 17 0 0 0).1 ≠ 0 then (TR l 17 0 0 0).1 else if (TR l 17 0 0 0).2 < l.length then 5 else 0
theorem w_check (l : List pred_Node) : W (fun N => s_pred_Check N l) (· = chk l) := by
  simp only [s_pred_Check, chk, W.cond, ltB_iff, ltB_not, W.ret]
  refine ⟨fun h => by rw [if_pos (by omega)], fun h => ?_⟩
  rw [if_neg (by omega)]
  refine ⟨fun h2 => by rw [if_pos (by simpa using h2)], fun h2 => ?_⟩
  have h2 : ¬ l.length = 0 := by simpa using h2
  rw [if_neg h2]
  refine W.call (p_tree (l := l) (by omega) 17 0 0 0 (by omega) (by omega) (by omega)) ?_
  rintro _ rfl
  simp only [W.cond, W.ret, ltB_iff, ltB_not]
  refine ⟨fun h3 => by rw [if_pos (by simpa using h3)], fun h3 => ?_⟩
  rw [if_neg (by simpa using h3)]
  exact ⟨fun h4 => by rw [if_pos (by omega)], fun h4 => by rw [if_neg (by omega)]⟩
end
section
def zv : value_Value := ⟨0, 0, 0, []⟩
def isD (c : UInt8) : Bool := leB 48 (c.toNat : Int) && leB (c.toNat : Int) 57
/-- What a digit to the base 16 is worth. -/
def hx (c : UInt8) : Option Nat := if isD c then some (c.toNat - 48) else if leB 97 (c.toNat : Int) && leB (c.toNat : Int) 102 then some (c.toNat - 87) else none
/-! ### Small facts -/
end
section
theorem drop_eq {α : Type} {l : List α} {k : Nat} {e : α} (h : l[k]? = some e) : l.drop k = e :: l.drop (k + 1) := by
  obtain ⟨h1, h2⟩ := List.getElem?_eq_some_iff.1 h
  rw [List.drop_eq_getElem_cons h1, h2]
end
section
inductive TU where
  | own (n : List UInt8)
  | of (v n : List UInt8)
  | lit (v : value_Value)
inductive TS where
  | u (a : TU)
  | op (k : Bool) (s : TS) (a : TU)
inductive TT where
  | or (a b : TT)
  | and (a b : TT)
  | not (a : TT)
  | test (o : Int) (a b : TS)
def TU.nd : TU → pred_Node
  | .own n => ⟨7, 0, [], n, zv⟩
  | .of v n => ⟨8, 0, v, n, zv⟩
  | .lit v => ⟨9, 0, [], [], v⟩
def TS.fl : TS → List pred_Node
  | .u a => [a.nd]
  | .op k s a => bn (if k then 6 else 5) :: (s.fl ++ [a.nd])
def TT.fl : TT → List pred_Node
  | .or a b => bn 2 :: (a.fl ++ b.fl)
  | .and a b => bn 1 :: (a.fl ++ b.fl)
  | .not a => bn 3 :: a.fl
  | .test o a b => ⟨4, o, [], [], zv⟩ :: (a.fl ++ b.fl)
def TU.ok : TU → Prop
  | .own n => nm n = true
  | .of v n => nm v = true ∧ nm n = true
  | .lit v => vchk v = 0 ∧ 0 ≤ v.Bits ∧ v.Bits < 18446744073709551616
def TS.ok : TS → Prop
  | .u a => a.ok
  | .op _ s a => s.ok ∧ a.ok
def TT.ok : TT → Prop
  | .or a b => a.ok ∧ b.ok
  | .and a b => a.ok ∧ b.ok
  | .not a => a.ok
  | .test o a b => 1 ≤ o ∧ o ≤ 6 ∧ a.ok ∧ b.ok
def TT.ht : TT → Nat
  | .or a b => 1 + max a.ht b.ht
  | .and a b => 1 + max a.ht b.ht
  | .not a => 1 + a.ht
  | .test _ _ _ => 1
theorem moreZ_eq {v : value_Value} (h : moreZ v = true) : v = zv := by
  obtain ⟨a, b, c, d⟩ := v
  simp only [moreZ, Bool.and_eq_true, beq_iff_eq] at h
  obtain ⟨rfl, rfl, rfl, rfl⟩ := h; rfl
theorem nds_0 {n : pred_Node} (h : nds n = 0) : bad n = false ∧ moreB n = false := by
  unfold nds at h
  cases h1 : bad n <;> cases h2 : moreB n <;> rw [h1, h2] at h <;> first | exact ⟨rfl, rfl⟩ | cases h
theorem nd_bare {n : pred_Node} (h : nds n = 0) (h4 : n.Kind ≠ 4) (h7 : n.Kind ≠ 7) (h8 : n.Kind ≠ 8) (h9 : n.Kind ≠ 9) : n = bn n.Kind := by
  obtain ⟨k, o, v, nn, w⟩ := n
  have := (nds_0 h).2
  simp only [moreB, show (k == 4) = false by simpa using h4, show (k == 7) = false by simpa using h7, show (k == 8) = false by simpa using h8, show (k == 9) = false by simpa using h9, cond_false, Bool.not_eq_false', Bool.and_eq_true, beq_iff_eq] at this
  obtain ⟨rfl, rfl, rfl, hz⟩ := this
  rw [moreZ_eq hz]; rfl
theorem nd_test {n : pred_Node} (h : nds n = 0) (h4 : n.Kind = 4) : n = ⟨4, n.Op, [], [], zv⟩ ∧ 1 ≤ n.Op ∧ n.Op ≤ 6 := by
  obtain ⟨k, o, v, nn, w⟩ := n
  obtain ⟨h1, h2⟩ := nds_0 h
  simp only at h4; subst h4
  simp only [moreB, bad, show ((4 : Int) == 4) = true from rfl, cond_true, Bool.not_eq_false', Bool.and_eq_true, beq_iff_eq, leB_iff] at h1 h2
  obtain ⟨rfl, rfl, hz⟩ := h2
  rw [moreZ_eq hz]; exact ⟨rfl, h1⟩
theorem nd_unit {n : pred_Node} (h : nds n = 0) (hb : 0 ≤ n.Val.Bits ∧ n.Val.Bits ≤ 18446744073709551615) (hk : n.Kind = 7 ∨ n.Kind = 8 ∨ n.Kind = 9) : ∃ a : TU, a.ok ∧ n = a.nd := by
  obtain ⟨k, o, v, nn, w⟩ := n
  obtain ⟨h1, h2⟩ := nds_0 h
  simp only at hk hb
  rcases hk with rfl | rfl | rfl
  · simp only [moreB, bad, show ((7 : Int) == 4) = false from rfl, show ((7 : Int) == 7) = true from rfl, cond_true, cond_false, Bool.not_eq_false', Bool.and_eq_true, beq_iff_eq] at h1 h2
    obtain ⟨rfl, rfl, hz⟩ := h2
    rw [moreZ_eq hz]
    exact ⟨.own nn, h1, rfl⟩
  · simp only [moreB, bad, show ((8 : Int) == 4) = false from rfl, show ((8 : Int) == 7) = false from rfl, show ((8 : Int) == 8) = true from rfl, cond_true, cond_false, Bool.not_eq_false', Bool.and_eq_true, Bool.or_eq_false_iff, beq_iff_eq] at h1 h2
    obtain ⟨rfl, hz⟩ := h2
    rw [moreZ_eq hz]
    exact ⟨.of v nn, ⟨h1.2, h1.1⟩, rfl⟩
  · simp only [moreB, bad, show ((9 : Int) == 4) = false from rfl, show ((9 : Int) == 7) = false from rfl, show ((9 : Int) == 8) = false from rfl, show ((9 : Int) == 9) = true from rfl, cond_true, cond_false, Bool.not_eq_false', Bool.and_eq_true, beq_iff_eq, bne_eq_false_iff_eq] at h1 h2
    obtain ⟨rfl, rfl, rfl⟩ := h2
    exact ⟨.lit w, ⟨h1, hb.1, by omega⟩, rfl⟩
theorem tr_node {l : List pred_Node} {n : Nat} {w d : Int} {i j : Nat} (h : TR l (n + 1) w d i = (0, j)) : ∃ nd, l[i]? = some nd ∧ d < 16 ∧ stB nd.Kind w = true ∧ nds nd = 0 ∧ kids (TR l n) nd.Kind d (i + 1) = (0, j) := by
  simp only [TR, trS] at h
  cases hl : l[i]? with
  | none => rw [hl] at h; cases h
  | some nd =>
    rw [hl] at h; simp only at h
    by_cases h1 : 16 ≤ d
    · rw [if_pos h1] at h; cases h
    rw [if_neg h1] at h
    by_cases h2 : stB nd.Kind w = false
    · rw [if_pos h2] at h; cases h
    rw [if_neg h2] at h
    by_cases h3 : nds nd ≠ 0
    · rw [if_pos h3] at h; exact absurd (Prod.mk.inj h).1 h3
    rw [if_neg h3] at h
    exact ⟨nd, rfl, by omega, by simpa using h2, by simpa using h3, h⟩
theorem kids2 {p : TF} {k d : Int} {i j : Nat} (hk : kdN k = 2) (h : kids p k d i = (0, j)) : ∃ m, p (kdW k 0) (d + 1) i = (0, m) ∧ p (kdW k 1) (d + 1) m = (0, j) := by
  rw [kids, if_neg (by omega)] at h
  by_cases h0 : (p (kdW k 0) (d + 1) i).1 ≠ 0
  · rw [if_pos (.inl h0)] at h; rw [h] at h0; exact absurd rfl h0
  · rw [if_neg (by intro q; rcases q with q | q <;> omega)] at h
    exact ⟨_, Prod.ext (by simpa using h0) rfl, h⟩
theorem kids1 {p : TF} {k d : Int} {i j : Nat} (hk : kdN k = 1) (h : kids p k d i = (0, j)) : p (kdW k 0) (d + 1) i = (0, j) := by
  rwa [kids, if_neg (by omega), if_pos (.inr hk)] at h
theorem kids0 {p : TF} {k d : Int} {i j : Nat} (hk : kdN k = 0) (h : kids p k d i = (0, j)) : j = i := by
  rw [kids, if_pos hk] at h; cases h; rfl
theorem tr_tree {l : List pred_Node} (ho : okN l) : ∀ (n : Nat) (w d : Int) (i j : Nat), TR l n w d i = (0, j) →
    (w = 2 → ∃ a : TU, a.ok ∧ l.drop i = a.nd :: l.drop j ∧ j = i + 1) ∧
    (w = 1 → ∃ s : TS, s.ok ∧ l.drop i = s.fl ++ l.drop j ∧ j = i + s.fl.length) ∧
    (w = 0 → ∃ t : TT, t.ok ∧ l.drop i = t.fl ++ l.drop j ∧ j = i + t.fl.length ∧ d + t.ht ≤ 16)
  | 0, w, d, i, j, h => by simp only [TR] at h; cases h
  | n + 1, w, d, i, j, h => by
    obtain ⟨nd, hi, hd, hst, hn, hk⟩ := tr_node h
    have hdr := drop_eq hi
    have hb := ho nd (List.mem_of_getElem? hi)
    have unit : (nd.Kind = 7 ∨ nd.Kind = 8 ∨ nd.Kind = 9) → ∃ a : TU, a.ok ∧ l.drop i = a.nd :: l.drop j ∧ j = i + 1 := fun h3 => by
      obtain ⟨a, h4, h5⟩ := nd_unit hn hb h3
      obtain rfl := kids0 (by rcases h3 with h3 | h3 | h3 <;> rw [h3] <;> rfl) hk
      exact ⟨a, h4, by rw [hdr, h5], rfl⟩
    refine ⟨?_, ?_, ?_⟩
    · rintro rfl
      simp only [stB, show ((2 : Int) == 0) = false from rfl, show ((2 : Int) == 1) = false from rfl, cond_false, Bool.and_eq_true, leB_iff] at hst
      exact unit (by omega)
    · rintro rfl
      simp only [stB, show ((1 : Int) == 0) = false from rfl, show ((1 : Int) == 1) = true from rfl, cond_true, cond_false, Bool.and_eq_true, leB_iff] at hst
      by_cases h7 : 7 ≤ nd.Kind
      · obtain ⟨a, h4, h5, h6⟩ := unit (by omega)
        exact ⟨.u a, h4, h5, h6⟩
      · have key : ∀ b : Bool, nd.Kind = (if b then 6 else 5) → ∃ s : TS, s.ok ∧ l.drop i = s.fl ++ l.drop j ∧ j = i + s.fl.length := fun b hbk => by
          have h56 : nd.Kind = 5 ∨ nd.Kind = 6 := by cases b <;> simp at hbk <;> omega
          obtain ⟨m, k1, k2⟩ := kids2 (by rcases h56 with h | h <;> rw [h] <;> rfl) hk
          have e0 : kdW nd.Kind 0 = 1 := by rcases h56 with h | h <;> rw [h] <;> rfl
          have e1 : kdW nd.Kind 1 = 2 := by rcases h56 with h | h <;> rw [h] <;> rfl
          rw [e0] at k1; rw [e1] at k2
          obtain ⟨s, s1, s2, s3⟩ := (tr_tree ho n 1 (d + 1) (i + 1) m k1).2.1 rfl
          obtain ⟨a, a1, a2, a3⟩ := (tr_tree ho n 2 (d + 1) m j k2).1 rfl
          refine ⟨.op b s a, ⟨s1, a1⟩, ?_, ?_⟩
          · rw [hdr, s2, a2, nd_bare hn (by omega) (by omega) (by omega) (by omega), hbk]
            simp [TS.fl]
          · simp only [TS.fl, List.length_cons, List.length_append, List.length_nil]; omega
        by_cases h6 : nd.Kind = 6
        · exact key true h6
        · exact key false (by simp only [Bool.false_eq_true, if_false]; omega)
    · rintro rfl
      simp only [stB, show ((0 : Int) == 0) = true from rfl, cond_true, Bool.and_eq_true, leB_iff] at hst
      have two : (nd.Kind = 1 ∨ nd.Kind = 2) → ∃ a b : TT, a.ok ∧ b.ok ∧ l.drop i = bn nd.Kind :: (a.fl ++ b.fl) ++ l.drop j ∧ j = i + (1 + a.fl.length + b.fl.length) ∧ d + (1 + max a.ht b.ht : Nat) ≤ 16 := fun h12 => by
        obtain ⟨m, k1, k2⟩ := kids2 (by rcases h12 with h | h <;> rw [h] <;> rfl) hk
        have e0 : kdW nd.Kind 0 = 0 := by rcases h12 with h | h <;> rw [h] <;> rfl
        have e1 : kdW nd.Kind 1 = 0 := by rcases h12 with h | h <;> rw [h] <;> rfl
        rw [e0] at k1; rw [e1] at k2
        obtain ⟨a, a1, a2, a3, a4⟩ := (tr_tree ho n 0 (d + 1) (i + 1) m k1).2.2 rfl
        obtain ⟨b, b1, b2, b3, b4⟩ := (tr_tree ho n 0 (d + 1) m j k2).2.2 rfl
        refine ⟨a, b, a1, b1, ?_, by omega, by omega⟩
        rw [hdr, a2, b2]
        conv => lhs; rw [nd_bare hn (by omega) (by omega) (by omega) (by omega)]
        simp
      by_cases h1 : nd.Kind = 1
      · obtain ⟨a, b, q1, q2, q3, q4, q5⟩ := two (.inl h1)
        rw [h1] at q3
        exact ⟨.and a b, ⟨q1, q2⟩, q3, by simp only [TT.fl, List.length_cons, List.length_append]; omega, q5⟩
      by_cases h2 : nd.Kind = 2
      · obtain ⟨a, b, q1, q2, q3, q4, q5⟩ := two (.inr h2)
        rw [h2] at q3
        exact ⟨.or a b, ⟨q1, q2⟩, q3, by simp only [TT.fl, List.length_cons, List.length_append]; omega, q5⟩
      by_cases h3 : nd.Kind = 3
      · have k1 := kids1 (by rw [h3]; rfl) hk
        rw [show kdW nd.Kind 0 = 0 by rw [h3]; rfl] at k1
        obtain ⟨a, a1, a2, a3, a4⟩ := (tr_tree ho n 0 (d + 1) (i + 1) j k1).2.2 rfl
        refine ⟨.not a, a1, ?_, by simp only [TT.fl, List.length_cons]; omega, by simp only [TT.ht]; omega⟩
        rw [hdr, a2, nd_bare hn (by omega) (by omega) (by omega) (by omega), h3]; rfl
      · have h4 : nd.Kind = 4 := by omega
        obtain ⟨m, k1, k2⟩ := kids2 (by rw [h4]; rfl) hk
        rw [show kdW nd.Kind 0 = 1 by rw [h4]; rfl] at k1
        rw [show kdW nd.Kind 1 = 1 by rw [h4]; rfl] at k2
        obtain ⟨a, a1, a2, a3⟩ := (tr_tree ho n 1 (d + 1) (i + 1) m k1).2.1 rfl
        obtain ⟨b, b1, b2, b3⟩ := (tr_tree ho n 1 (d + 1) m j k2).2.1 rfl
        obtain ⟨g1, g2, g3⟩ := nd_test hn h4
        refine ⟨.test nd.Op a b, ⟨g2, g3, a1, b1⟩, ?_, by simp only [TT.fl, List.length_cons, List.length_append]; omega, by simp only [TT.ht]; omega⟩
        rw [hdr, a2, b2]
        conv => lhs; rw [g1]
        simp [TT.fl]
theorem chk_tree {l : List pred_Node} (ho : okN l) (h : chk l = 0) (hl : l ≠ []) : ∃ t : TT, t.ok ∧ l = t.fl ∧ t.ht ≤ 16 ∧ l.length ≤ 30 := by
  have h0 : ¬ l.length = 0 := fun h => hl (List.eq_nil_of_length_eq_zero h)
  unfold chk at h
  by_cases h1 : 30 < l.length
  · rw [if_pos h1] at h; cases h
  rw [if_neg h1, if_neg h0] at h
  by_cases h2 : (TR l 17 0 0 0).1 ≠ 0
  · rw [if_pos h2] at h; exact absurd h h2
  rw [if_neg h2] at h
  by_cases h3 : (TR l 17 0 0 0).2 < l.length
  · rw [if_pos h3] at h; cases h
  obtain ⟨t, t1, t2, t3, t4⟩ := (tr_tree ho 17 0 0 0 (TR l 17 0 0 0).2 (Prod.ext (by simpa using h2) rfl)).2.2 rfl
  refine ⟨t, t1, ?_, by omega, by omega⟩
  rw [List.drop_eq_nil_of_le (by omega : l.length ≤ (TR l 17 0 0 0).2), List.append_nil, List.drop_zero] at t2
  exact t2
end
section
/-- A token without its place. -/
abbrev Tk := Int × List UInt8 × value_Value
def ke (t : lex_Token) : Tk := (t.Kind, t.Text, t.Val)
def sg (s : List UInt8) : Tk := (4, s, zv)
def kw (s : List UInt8) : Tk := (2, s, zv)
def M (y : List lex_Token) : Nat → List Tk → Prop
  | _, [] => True
  | i, t :: ts => ke (tk y i) = t ∧ M y (i + 1) ts
def TU.tk : TU → List Tk
  | .own n => [(1, n, zv)]
  | .of v n => [(1, v, zv), sg [46], (1, n, zv)]
  | .lit v => if v.Kind = 1 ∧ v.N < 0 then [sg [45], (3, [], ⟨1, -v.N, 0, []⟩)] else [(3, [], v)]
def TS.tk : TS → List Tk
  | .u a => a.tk
  | .op k s a => s.tk ++ sg (if k then [45] else [43]) :: a.tk
def TT.bd : TT → Nat
  | .or _ _ => 1
  | .and _ _ => 2
  | _ => 3
def brk (c : Bool) (l : List Tk) : List Tk := if c then sg [40] :: (l ++ [sg [41]]) else l
def TT.tk : TT → List Tk
  | .or a b => brk (decide (a.bd < 1)) a.tk ++ kw [111, 114] :: brk (decide (b.bd < 2)) b.tk
  | .and a b => brk (decide (a.bd < 2)) a.tk ++ kw [97, 110, 100] :: brk (decide (b.bd < 3)) b.tk
  | .not a => kw [110, 111, 116] :: brk (decide (a.bd < 3)) a.tk
  | .test o a b => a.tk ++ sg (sgV o) :: b.tk
end
section
open Go Classical
theorem w_small (v : value_Value) (hv : okS v.Text) : W (fun N => s_law04_Small N v) fun r => ¬ 0 < r → v.Text.length ≤ 100 := by
  have := okS_le hv
  simp only [s_law04_Small, W.gd, W.ret, i64b_eq]
  exact ⟨by omega, fun h => by omega⟩
theorem w_nOwn (l : List pred_Node) (hl : l.length ≤ 10000) : W (fun N => s_law11_Own N l) (· = l) := by
  simp only [s_law11_Own]
  refine wf2a (l := l) (fun pre ys => ys = pre) [] rfl rfl (by omega) rfl ?_ ?_
  · rintro F pre e rest ys hl' h1 h2 h3 rfl hn
    simp only [s_law11_Own_1, h1, h2, h3, Option.bind_some, cond_true, W.gd, true_and]
    refine ⟨Nat.ble_eq_true_of_le (by rw [hl'] at hl; simp at hl; omega), hn _ rfl⟩
  · rintro F ys h1 rfl
    simp only [s_law11_Own_1, h1, cond_false, W.ret]
theorem w_nOver (l : List pred_Node) (hl : okL (fun n : pred_Node => okS n.Val.Text) l) : W (fun N => s_law11_Over N l) fun b => ¬ 0 < b → l.length ≤ 40 ∧ ∀ n ∈ l, n.Var.length ≤ 40 ∧ n.Name.length ≤ 40 ∧ n.Val.Text.length ≤ 100 := by
  have hlen : l.length ≤ 9223372036854775807 := hl.2
  simp only [s_law11_Over, W.cond, W.ret, ltB_iff, ltB_not]
  refine ⟨fun h h2 => absurd (by omega) h2, fun h => ?_⟩
  refine wf1 (l := l) (fun pre => ∀ n ∈ pre, n.Var.length ≤ 40 ∧ n.Name.length ≤ 40 ∧ n.Val.Text.length ≤ 100) [] rfl rfl (by omega) (by simp) ?_ ?_
  · intro F pre e rest hl' h1 h2 h3 hp hn
    have he := hl.1 e (by rw [hl']; simp)
    simp only [s_law11_Over_1, h1, h2, h3, Option.bind_some, cond_true, W.cond, W.ret, gd_true, ltB_iff, ltB_not]
    refine ⟨fun _ h => absurd (by omega) h, fun h40 => ⟨fun _ h => absurd (by omega) h, fun h41 => ?_⟩⟩
    refine W.call (w_small e.Val he) fun b hb => ?_
    simp only [W.cond, W.ret, ltB_iff, ltB_not]
    refine ⟨fun _ h => absurd (by omega) h, fun hb0 => hn fun t ht => ?_⟩
    rcases List.mem_append.1 ht with ht | ht
    · exact hp t ht
    · rw [List.mem_singleton.1 ht]; exact ⟨by omega, by omega, hb (by omega)⟩
  · intro F h1 hp
    simp only [s_law11_Over_1, h1, cond_false, W.ret]
    exact fun _ => ⟨by omega, hp⟩
end
end
abbrev okEv (e : event_Event) : Prop := okL (fun v : value_Value => okS v.Text) e.Vals
theorem w_Over6 (l : List schema_Type) : W (fun N => s_law06_Over N l) fun r => (r = 0 ∨ r = 1) ∧ (r = 0 → small l) := by
  refine (W.and (w_law06_Over l) ?_).mp fun r h => ⟨h.2, fun h0 => h.1 (by omega)⟩
  simp only [s_law06_Over, W.cond, W.ret, ltB_iff, ltB_not]
  refine ⟨by simp, fun hl => ?_⟩
  refine wf1 (l := l) (fun pre => True) [] rfl rfl (by omega) trivial ?_ ?_
  · intro F pre t rest hl h1 h2 h3 hp hn
    simp only [s_law06_Over_1, h1, h2, W.some, W.cond, W.ret, ltB_iff, ltB_not]
    refine ⟨fun _ => ⟨by simp, fun hn1 => ⟨by simp, fun hn2 => ?_⟩⟩, by simp⟩
    refine wf1 (l := t.Fields) (fun pre => True) [] rfl rfl (by omega) trivial ?_ ?_
    · intro F' pre' f rest' hl' k1 k2 k3 hp' hn'
      simp only [s_law06_Over_2, h1, h2, k1, k2, k3, W.some, W.cond, W.ret, gd_true, ltB_iff, ltB_not]
      exact ⟨fun _ => ⟨by simp, fun hf => hn' trivial⟩, by simp⟩
    · intro F' k1 hp'
      simp only [s_law06_Over_2, h1, h2, h3, k1, W.some, W.cond, W.ret, gd_true]
      exact ⟨by simp, fun _ => (hn trivial).lift⟩
  · intro F h1 hp
    simp only [s_law06_Over_1, h1, W.some, W.cond, W.ret]
    exact ⟨by simp, fun _ => by simp⟩
theorem w_eOver (e : event_Event) (he : okEv e) : W (fun N => s_law07_Over N [e] 1) fun r => (r = 0 ∨ r = 1) ∧ (r = 0 → e.Vals.length ≤ 12) := by
  simp only [s_law07_Over, W.cond, W.ret, ltB_iff, ltB_not]
  refine ⟨by simp, fun hl => ?_⟩
  refine wf1 (l := [e]) (fun pre => ∀ x ∈ pre, x.Vals.length ≤ 12) [] rfl rfl (by simp) (by simp) ?_ ?_
  · intro F pre t rest hl h1 h2 h3 hp hn
    have hte : t = e := by
      have : t ∈ [e] := by rw [hl]; simp
      simpa using this
    subst hte
    simp only [s_law07_Over_1, h1, h2, W.some, W.cond, W.ret, ltB_iff, ltB_not]
    refine ⟨fun _ => ⟨by simp, fun hn1 => ⟨by simp, fun hn2 => ?_⟩⟩, by simp⟩
    refine wf1 (l := t.Vals) (fun pre => True) [] rfl rfl (by omega) trivial ?_ ?_
    · intro F' pre' f rest' hl' k1 k2 k3 hp' hn'
      have hf := he.1 f (by rw [hl']; simp)
      simp only [s_law07_Over_2, h1, h2, k1, k2, k3, W.some, W.cond, W.ret, gd_true, ltB_iff, ltB_not]
      refine ⟨fun _ => ?_, by simp⟩
      refine W.call (w_small f hf) fun b hb => ?_
      simp only [W.cond, W.ret, ltB_iff, ltB_not]
      exact ⟨by simp, fun _ => hn' trivial⟩
    · intro F' k1 hp'
      simp only [s_law07_Over_2, h1, h2, h3, k1, W.some, W.cond, W.ret, gd_true]
      refine ⟨by simp, fun _ => (hn ?_).lift⟩
      simp only [List.mem_append, List.mem_singleton]
      rintro x (h | rfl)
      · exact hp x h
      · omega
  · intro F h1 hp
    simp only [s_law07_Over_1, h1, W.some, W.cond, W.ret]
    exact ⟨by simp, fun _ => ⟨by simp, fun _ => hp e (by simp)⟩⟩
def smB (l : List bind_Pair) : Prop := l.length ≤ 20 ∧ ∀ p ∈ l, p.E.Vals.length ≤ 12
theorem w_bOver (l : List bind_Pair) (hk : ∀ p ∈ l, okEv p.E) : W (fun N => s_law19_Long N l) fun r => (r = 0 ∨ r = 1) ∧ (r = 0 → smB l) := by
  simp only [s_law19_Long, W.cond, W.ret, ltB_iff, ltB_not]
  refine ⟨by simp, fun hl => ?_⟩
  refine wf1 (l := l) (fun pre => ∀ x ∈ pre, x.E.Vals.length ≤ 12) [] rfl rfl (by omega) (by simp) ?_ ?_
  · intro F pre t rest hl h1 h2 h3 hp hn
    simp only [s_law19_Long_1, h1, h2, h3, W.some, W.cond, W.ret, gd_true, ltB_iff, ltB_not]
    refine ⟨fun _ => ⟨by simp, fun hn1 => ?_⟩, by simp⟩
    refine W.call (w_eOver t.E (hk t (by rw [hl]; simp))) fun b hb => ?_
    simp only [W.cond, W.ret, ltB_iff, ltB_not]
    refine ⟨by simp, fun hb0 => hn ?_⟩
    simp only [List.mem_append, List.mem_singleton]
    rintro x (h | rfl)
    · exact hp x h
    · exact hb.2 (by omega)
  · intro F h1 hp
    simp only [s_law19_Long_1, h1, W.some, W.cond, W.ret]
    exact ⟨by simp, fun _ => ⟨by simp, fun _ => ⟨by omega, hp⟩⟩⟩
def smS (s : ref20_Scene) : Prop := small s.Types ∧ smB s.Bound ∧ s.E.Vals.length ≤ 12
theorem w_sOver (s : ref20_Scene) (hk : ∀ p ∈ s.Bound, okEv p.E) (he : okEv s.E) : W (fun N => s_law20_Over N s) fun r => ¬ 0 < r → smS s := by
  simp only [s_law20_Over]
  refine W.call (w_Over6 s.Types) fun a ha => ?_
  refine W.call (w_bOver s.Bound hk) fun b hb => ?_
  simp only [W.gd, i64b_eq]
  refine ⟨by omega, ?_⟩
  refine W.call (w_eOver s.E he) fun c hc => ?_
  simp only [W.gd, W.ret, i64b_eq]
  exact ⟨by omega, fun h => ⟨ha.2 (by omega), hb.2 (by omega), hc.2 (by omega)⟩⟩
theorem w_vals (l : List value_Value) (hl : l.length ≤ 12) : W (fun N => s_law06_Vals N l) (· = l) := by
  simp only [s_law06_Vals]
  refine wf2a (l := l) (fun pre ys => ys = pre) [] rfl rfl (by omega) rfl ?_ ?_
  · rintro F pre e rest ys hl' h1 h2 h3 rfl hn
    simp only [s_law06_Vals_1, h1, h2, h3, Option.bind_some, cond_true, W.gd, true_and]
    refine ⟨Nat.ble_eq_true_of_le (by rw [hl'] at hl; simp at hl; omega), hn _ rfl⟩
  · rintro F ys h1 rfl
    simp only [s_law06_Vals_1, h1, cond_false, W.ret]
theorem w_eOwn (e : event_Event) (h : e.Vals.length ≤ 12) : W (fun N => s_law07_Own N e) (· = e) := by
  simp only [s_law07_Own]
  refine W.call (w_vals e.Vals h) ?_
  rintro _ rfl
  simp only [W.ret]
theorem w_bOwn (l : List bind_Pair) (h : smB l) : W (fun N => s_law19_Pairs_own N l) (· = l) := by
  simp only [s_law19_Pairs_own]
  have h20 := h.1
  refine wf2a (l := l) (fun pre ys => ys = pre) [] rfl rfl (by omega) rfl ?_ ?_
  · rintro F pre e rest ys hl' h1 h2 h3 rfl hn
    simp only [s_law19_Pairs_own_1, h1, h2, Option.bind_some, cond_true]
    refine W.call (w_eOwn e.E (h.2 e (by rw [hl']; simp))) ?_
    rintro _ rfl
    simp only [h3, W.gd, true_and]
    exact ⟨Nat.ble_eq_true_of_le (by rw [hl'] at h20; simp at h20; omega), hn _ rfl⟩
  · rintro F ys h1 rfl
    simp only [s_law19_Pairs_own_1, h1, cond_false, W.ret]
def tot {α : Type} (f : Option α) : Prop := ∃ r, f = some r
theorem tot_some {α : Type} {a : α} : tot (some a) := ⟨a, rfl⟩
theorem tot_bind {α β : Type} {f : Option α} {k : α → Option β} (h : tot f) (hk : ∀ a, tot (k a)) : tot (f.bind k) := by
  obtain ⟨a, rfl⟩ := h; exact hk a
theorem tot_cond {α : Type} {c : Bool} {f g : Option α} (h : c = true → tot f) (h' : c = false → tot g) : tot (bif c then f else g) := by
  cases c
  · exact h' rfl
  · exact h rfl
theorem tot_W {α : Type} {f : Nat → Option α} (h : tot (f 0)) (e : ∀ N, f N = f 0) : W f fun _ => True := by
  obtain ⟨r, h⟩ := h
  exact ⟨r, ⟨0, fun N _ => (e N).trans h⟩, trivial⟩
theorem tot_Check (v : value_Value) : tot (s_value_Check 0 v) := ⟨_, e_value_Check v 0⟩
theorem tot_Clean (u : Int) : tot (s_real_Clean 0 u) := by
  unfold s_real_Clean s_real_of
  exact tot_cond (fun _ => tot_some) fun _ => tot_some
theorem tot_num (k : Int) : tot (s_compare_numeric 0 k) := by
  unfold s_compare_numeric
  exact tot_cond (fun _ => tot_some) fun _ => tot_some
theorem tot_sm {va b : value_Value} : tot (s_compare_summed 0 va b) := by
  unfold s_compare_summed
  refine tot_bind (tot_Check va) fun c => tot_cond (fun _ => tot_bind (tot_Check b) fun d => tot_cond (fun _ => tot_bind (tot_num _) fun e => tot_cond (fun _ => tot_bind (tot_num _) fun f => tot_some) fun _ => tot_some) fun _ => tot_some) fun _ => tot_some
theorem sm_ok {va b : value_Value} (h : s_compare_summed 0 va b = some true) : vchk va = 0 ∧ vchk b = 0 := by
  unfold s_compare_summed at h
  rw [e_value_Check, e_value_Check] at h
  simp only [Option.bind_some] at h
  cases h1 : (vchk va == 0) with
  | false => rw [h1] at h; cases h
  | true =>
    cases h2 : (vchk b == 0) with
    | false => rw [h1, h2] at h; cases h
    | true => exact ⟨eq_of_beq h1, eq_of_beq h2⟩
theorem vchk_N {v : value_Value} (h : vchk v = 0) (hk : v.Kind = 1) : -4611686018427387904 ≤ v.N ∧ v.N ≤ 4611686018427387904 := by
  unfold vchk at h
  rw [if_pos hk] at h
  split at h
  · cases h
  · omega
theorem tot_whole {a b : Int} (ha : -4611686018427387904 ≤ a ∧ a ≤ 4611686018427387904) (hb : -4611686018427387904 ≤ b ∧ b ≤ 4611686018427387904) : tot (s_compare_whole 0 a b) := by
  have hg : ∀ {α : Type} {c : Bool} {f : Option α}, c = true → tot f → tot (gd c f) := fun hc hf => by rw [hc]; exact hf
  unfold s_compare_whole
  have hs : ∀ n, tot ((s_value_OfInt 0 n).bind fun ofin => some (ofin, true)) := fun n => ⟨_, rfl⟩
  refine tot_cond (fun c => ?_) fun c => ?_
  · rw [leB_iff] at c
    refine hg (by rw [i64b_eq]; omega) (tot_cond (fun _ => tot_some) fun d => ?_)
    rw [ltB_not] at d
    refine tot_cond (fun e => ?_) fun e => hg (by rw [i64b_eq]; omega) (hs _)
    rw [ltB_iff] at e; omega
  · rw [leB_not] at c
    refine tot_cond (fun e => hg (by rw [i64b_eq]; omega) (tot_cond (fun _ => tot_some) fun d => ?_)) fun e => ?_
    · rw [ltB_not] at d
      exact hg (by rw [i64b_eq]; omega) (hs _)
    · rw [ltB_not] at e; omega
theorem tot_dbl (v : value_Value) : tot (s_compare_double 0 v) := by
  unfold s_compare_double s_real_OfInt
  exact tot_cond (fun _ => tot_some) fun _ => tot_some
theorem tot_ofre (n : Int) : tot (s_value_OfReal 0 n) := by
  unfold s_value_OfReal
  exact tot_bind (tot_Clean n) fun _ => tot_some
theorem tot_neg (n : Int) : tot (s_real_Neg 0 n) := by
  unfold s_real_Neg
  exact tot_bind (tot_Clean _) fun _ => tot_some
theorem neg_N {n : Int} (h : -4611686018427387904 ≤ n ∧ n ≤ 4611686018427387904) : -4611686018427387904 ≤ IntKind.i64.wrap (0 - n) ∧ IntKind.i64.wrap (0 - n) ≤ 4611686018427387904 := by
  have : IntKind.i64.wrap (0 - n) = 0 - n := by
    rw [IntKind.wrap_i64]; omega
  omega
theorem tot_plus (a b : value_Value) : tot (s_compare_Plus 0 a b) := by
  unfold s_compare_Plus
  obtain ⟨q, hq⟩ := tot_sm (va := a) (b := b)
  rw [hq]
  refine tot_cond (fun _ => tot_some) fun hs => ?_
  have hs : q = true := by simpa using hs
  subst hs
  obtain ⟨c1, c2⟩ := sm_ok hq
  refine tot_cond (fun k1 => tot_cond (fun k2 => ?_) fun _ => ?_) fun _ => ?_
  · exact tot_bind (tot_whole (vchk_N c1 (eq_of_beq k1)) (vchk_N c2 (eq_of_beq k2))) fun _ => tot_some
  · exact tot_bind (tot_dbl a) fun _ => tot_bind (tot_dbl b) fun _ => tot_bind ⟨_, rfl⟩ fun _ => tot_bind (tot_ofre _) fun _ => tot_some
  · exact tot_bind (tot_dbl a) fun _ => tot_bind (tot_dbl b) fun _ => tot_bind ⟨_, rfl⟩ fun _ => tot_bind (tot_ofre _) fun _ => tot_some
theorem tot_minus (a b : value_Value) : tot (s_compare_Minus 0 a b) := by
  unfold s_compare_Minus
  obtain ⟨q, hq⟩ := tot_sm (va := a) (b := b)
  rw [hq]
  refine tot_cond (fun _ => tot_some) fun hs => ?_
  have hs : q = true := by simpa using hs
  subst hs
  obtain ⟨c1, c2⟩ := sm_ok hq
  refine tot_cond (fun k1 => tot_cond (fun k2 => ?_) fun _ => ?_) fun _ => ?_
  · exact tot_bind (tot_whole (vchk_N c1 (eq_of_beq k1)) (neg_N (vchk_N c2 (eq_of_beq k2)))) fun _ => tot_some
  · exact tot_bind (tot_dbl a) fun _ => tot_bind (tot_dbl b) fun _ => tot_bind (tot_neg _) fun _ => tot_bind ⟨_, rfl⟩ fun _ => tot_bind (tot_ofre _) fun _ => tot_some
  · exact tot_bind (tot_dbl a) fun _ => tot_bind (tot_dbl b) fun _ => tot_bind (tot_neg _) fun _ => tot_bind ⟨_, rfl⟩ fun _ => tot_bind (tot_ofre _) fun _ => tot_some
theorem tot_cmp8 (x y : Int) : tot (s_cmp_Compare_uint8 0 x y) := by
  unfold s_cmp_Compare_uint8 s_cmp_isNaN_uint8
  exact tot_cond (fun _ => tot_cond (fun _ => tot_some) fun _ => tot_some) fun _ => tot_cond (fun _ => tot_some) fun _ => tot_cond (fun _ => tot_some) fun _ => tot_cond (fun _ => tot_some) fun _ => tot_some
theorem tot_cmpi (x y : Int) : tot (s_cmp_Compare_int 0 x y) := by
  unfold s_cmp_Compare_int s_cmp_isNaN_int
  exact tot_cond (fun _ => tot_cond (fun _ => tot_some) fun _ => tot_some) fun _ => tot_cond (fun _ => tot_some) fun _ => tot_cond (fun _ => tot_some) fun _ => tot_cond (fun _ => tot_some) fun _ => tot_some
theorem tot_cmpu (x y : Int) : tot (s_cmp_Compare_uint64 0 x y) := by
  unfold s_cmp_Compare_uint64 s_cmp_isNaN_uint64
  exact tot_cond (fun _ => tot_cond (fun _ => tot_some) fun _ => tot_some) fun _ => tot_cond (fun _ => tot_some) fun _ => tot_cond (fun _ => tot_some) fun _ => tot_cond (fun _ => tot_some) fun _ => tot_some
theorem tot_cmps (x y : List UInt8) : tot (s_cmp_Compare_string 0 x y) := by
  unfold s_cmp_Compare_string s_cmp_isNaN_string
  exact tot_cond (fun _ => tot_cond (fun _ => tot_some) fun _ => tot_some) fun _ => tot_cond (fun _ => tot_some) fun _ => tot_cond (fun _ => tot_some) fun _ => tot_cond (fun _ => tot_some) fun _ => tot_some
theorem tot_rrank (u : Int) : tot (s_real_Rank 0 u) := by
  unfold s_real_Rank
  exact tot_bind (tot_Clean u) fun _ => tot_cond (fun _ => tot_some) fun _ => tot_some
theorem tot_vrank (a b : value_Value) : tot (s_value_Rank 0 a b) := by
  unfold s_value_Rank
  have h3 : tot ((s_real_Rank 0 a.Bits).bind fun rank => (s_real_Rank 0 b.Bits).bind fun rank2 => (s_cmp_Compare_uint64 0 rank rank2).bind fun uint2 => some uint2) := tot_bind (tot_rrank _) fun _ => tot_bind (tot_rrank _) fun _ => tot_bind (tot_cmpu _ _) fun _ => tot_some
  have h4 : tot ((s_cmp_Compare_string 0 a.Text b.Text).bind fun stri => some stri) := tot_bind (tot_cmps _ _) fun _ => tot_some
  have hi : tot ((s_cmp_Compare_int 0 a.N b.N).bind fun int => some int) := tot_bind (tot_cmpi _ _) fun _ => tot_some
  refine tot_bind (tot_cmp8 _ _) fun c => tot_cond (fun _ => tot_some) fun _ => tot_cond (fun _ => tot_cond (fun _ => hi) fun _ => tot_cond (fun _ => h3) fun _ => tot_cond (fun _ => h4) fun _ => tot_some) fun _ => tot_cond (fun _ => hi) fun _ => tot_cond (fun _ => h3) fun _ => tot_cond (fun _ => h4) fun _ => tot_some
theorem tot_dbls (a b : Int) : tot (s_compare_doubles 0 a b) := by
  unfold s_compare_doubles s_real_Equal s_real_Less s_real_of
  exact tot_cond (fun _ => tot_some) fun _ => tot_cond (fun _ => tot_some) fun _ => tot_cond (fun _ => tot_some) fun _ => tot_some
theorem tot_order (a b : value_Value) : tot (s_compare_order 0 a b) := by
  unfold s_compare_order
  have h1 : tot ((s_compare_doubles 0 a.Bits b.Bits).bind fun doub => some (doub.1, doub.2)) := tot_bind (tot_dbls _ _) fun _ => tot_some
  have h2 : tot ((s_value_Rank 0 a b).bind fun rank => some (rank, true)) := tot_bind (tot_vrank _ _) fun _ => tot_some
  exact tot_cond (fun _ => tot_cond (fun _ => h1) fun _ => tot_cond (fun _ => ⟨_, rfl⟩) fun _ => tot_cond (fun _ => ⟨_, rfl⟩) fun _ => h2) fun _ => tot_cond (fun _ => ⟨_, rfl⟩) fun _ => tot_cond (fun _ => ⟨_, rfl⟩) fun _ => h2
theorem tot_says (op n : Int) : tot (s_compare_says 0 op n) := by
  unfold s_compare_says
  exact tot_cond (fun _ => tot_some) fun _ => tot_cond (fun _ => tot_cond (fun _ => tot_some) fun _ => tot_some) fun _ => tot_cond (fun _ => tot_some) fun _ => tot_cond (fun _ => tot_some) fun _ => tot_cond (fun _ => tot_cond (fun _ => tot_some) fun _ => tot_some) fun _ => tot_cond (fun _ => tot_some) fun _ => tot_some
theorem tot_holds (op : Int) (a b : value_Value) : tot (s_compare_Holds 0 op a b) := by
  unfold s_compare_Holds
  have h1 : tot ((s_compare_order 0 a b).bind fun orde => bif (!orde.2) then some (op == 2) else (s_compare_says 0 op orde.1).bind fun says => some says) := tot_bind (tot_order a b) fun _ => tot_cond (fun _ => tot_some) fun _ => tot_bind (tot_says _ _) fun _ => tot_some
  have h2 : tot (bif (a.Kind == 2) then bif (op != 1) then bif (op != 2) then some false else (s_compare_order 0 a b).bind fun orde => bif (!orde.2) then some (op == 2) else (s_compare_says 0 op orde.1).bind fun says => some says else (s_compare_order 0 a b).bind fun orde => bif (!orde.2) then some (op == 2) else (s_compare_says 0 op orde.1).bind fun says => some says else (s_compare_order 0 a b).bind fun orde => bif (!orde.2) then some (op == 2) else (s_compare_says 0 op orde.1).bind fun says => some says) := tot_cond (fun _ => tot_cond (fun _ => tot_cond (fun _ => tot_some) fun _ => h1) fun _ => h1) fun _ => h1
  exact tot_bind (tot_Check a) fun _ => tot_cond (fun _ => tot_some) fun _ => tot_bind (tot_Check b) fun _ => tot_cond (fun _ => tot_some) fun _ => tot_cond (fun _ => tot_bind (tot_num _) fun _ => tot_cond (fun _ => tot_bind (tot_num _) fun _ => tot_cond (fun _ => tot_some) fun _ => h2) fun _ => tot_some) fun _ => h2
/-! ### Events -/
theorem w_find (l : List schema_Type) (name : List UInt8) (h : small l) : W (fun N => s_schema_Find N l name) fun r => r.1.Fields.length ≤ 12 := by
  simp only [s_schema_Find]
  have h12 := h.1
  refine wf1 (l := l) (fun pre => True) [] rfl rfl (by omega) trivial ?_ ?_
  · intro F pre t rest hl h1 h2 h3 hp hn
    have ht := (h.2 t (by rw [hl]; simp)).2.1
    simp only [s_schema_Find_1, h1, h2, h3, Option.bind_some, cond_true, W.cond, gd_true]
    refine ⟨fun _ => ?_, fun _ => hn trivial⟩
    rw [show (fun p : _ × Nat => (s_slices_Clone_schema_Field p.1 t.Fields).bind fun clon => some (({ Name := name, Fields := clon } : schema_Type), true)) = fun p => (shClone 24 t.Fields).bind fun clon => some (({ Name := name, Fields := clon } : schema_Type), true) from rfl]
    rw [W.clone (by omega), W.ret]
    exact ht
  · intro F h1 hp
    simp only [s_schema_Find_1, h1, cond_false, W.ret]
    exact Nat.zero_le _
theorem w_field (t : schema_Type) (name : List UInt8) (h : t.Fields.length ≤ 12) : W (fun N => s_schema_Type_Field N t name) fun r => True := by
  simp only [s_schema_Type_Field]
  refine wf1 (l := t.Fields) (fun pre => True) [] rfl rfl (by omega) trivial ?_ ?_
  · intro F pre e rest hl h1 h2 h3 hp hn
    simp only [s_schema_Type_Field_1, h1, h2, h3, Option.bind_some, cond_true, W.cond, W.ret, gd_true]
    exact ⟨fun _ => trivial, fun _ => hn trivial⟩
  · intro F h1 hp
    simp only [s_schema_Type_Field_1, h1, cond_false, W.ret]
theorem w_ev (e : event_Event) (types : List schema_Type) (field : List UInt8) (h : small types) : W (fun N => s_event_Event_Value N e types field) fun r => True := by
  simp only [s_event_Event_Value]
  refine W.call (w_find types _ h) fun f hf => ?_
  refine W.call (w_field f.1 field hf) fun g _ => ?_
  simp only [W.cond, W.ret, ltB_not, leB_not]
  refine ⟨fun _ => trivial, fun h0 => ⟨fun _ => trivial, fun h1 => W.ix (by omega) (by omega) fun e _ _ => W.ret.2 trivial⟩⟩
section
set_option maxHeartbeats 2000000
section
variable (ty : List schema_Type) (bd : List bind_Pair) (a1 a2 a3 : Int) (a4 : List UInt8) (a5 : List value_Value)
abbrev envT : Type := List schema_Type × List bind_Pair × Int × Int × Int × List UInt8 × List value_Value
def sideS (N : Nat) (s : judge_side) : Option (value_Value × Bool × envT) := match s with
  | .lit_ v => s_judge_lit_value_v072 N ⟨v⟩ ty bd a1 a2 a3 a4 a5
  | .of_ n f => s_judge_of_value_v421 N ⟨n, f⟩ ty bd a1 a2 a3 a4 a5
  | .own_ n => s_judge_own_value_v282 N ⟨n⟩ ty bd a1 a2 a3 a4 a5
  | .sum_ m a b => s_judge_sum_value_v486 N ⟨m, a, b⟩ ty bd a1 a2 a3 a4 a5
abbrev envQ (b : Bool) (r : Bool × envT) : Prop := r = (b, ty, bd, a1, a2, a3, a4, a5)
def truthS (N : Nat) (t : judge_truth) : Option (Bool × envT) := match t with
  | .and_ a b => s_judge_and_holds_v355 N ⟨a, b⟩ ty bd a1 a2 a3 a4 a5
  | .or_ a b => s_judge_or_holds_v355 N ⟨a, b⟩ ty bd a1 a2 a3 a4 a5
  | .not_ a => s_judge_not_holds_v301 N ⟨a⟩ ty bd a1 a2 a3 a4 a5
  | .test_ o a b => s_judge_test_holds_v233 N ⟨o, a, b⟩ ty bd a1 a2 a3 a4 a5
/-- What a truth comes to. -/
def TV (t : judge_truth) (b : Bool) : Prop := W (fun N => truthS ty bd a1 a2 a3 a4 a5 N t) (envQ ty bd a1 a2 a3 a4 a5 b)
theorem TV_and {a b : judge_truth} {x y : Bool} (ha : TV ty bd a1 a2 a3 a4 a5 a x) (hb : TV ty bd a1 a2 a3 a4 a5 b y) : TV ty bd a1 a2 a3 a4 a5 (.and_ a b) (x && y) := by
  show W (fun N => (SS_judge_and_holds_v355 N).1 ⟨a, b⟩ ty bd a1 a2 a3 a4 a5) _
  refine W.shift ?_
  show W (fun N => b_judge_and_holds_v355 N (SS_judge_and_holds_v355 N) ⟨a, b⟩ ty bd a1 a2 a3 a4 a5) _
  unfold TV at ha hb
  cases a <;> (
    refine W.bind ha ?_
    rintro _ rfl
    cases x
    · exact W.ret.2 rfl
    · simp only [cond_true, Bool.true_and]
      cases b <;> (
        refine W.bind hb ?_
        rintro _ rfl
        exact W.ret.2 rfl))
theorem TV_or {a b : judge_truth} {x y : Bool} (ha : TV ty bd a1 a2 a3 a4 a5 a x) (hb : TV ty bd a1 a2 a3 a4 a5 b y) : TV ty bd a1 a2 a3 a4 a5 (.or_ a b) (x || y) := by
  show W (fun N => (SS_judge_and_holds_v355 N).2.2 ⟨a, b⟩ ty bd a1 a2 a3 a4 a5) _
  refine W.shift ?_
  show W (fun N => b_judge_or_holds_v355 N (SS_judge_and_holds_v355 N) ⟨a, b⟩ ty bd a1 a2 a3 a4 a5) _
  unfold TV at ha hb
  cases a <;> (
    refine W.bind ha ?_
    rintro _ rfl
    cases x
    · simp only [cond_false, Bool.false_or]
      cases b <;> (
        refine W.bind hb ?_
        rintro _ rfl
        exact W.ret.2 rfl)
    · exact W.ret.2 rfl)
theorem TV_not {a : judge_truth} {x : Bool} (ha : TV ty bd a1 a2 a3 a4 a5 a x) : TV ty bd a1 a2 a3 a4 a5 (.not_ a) (!x) := by
  show W (fun N => (SS_judge_and_holds_v355 N).2.1 ⟨a⟩ ty bd a1 a2 a3 a4 a5) _
  refine W.shift ?_
  show W (fun N => b_judge_not_holds_v301 N (SS_judge_and_holds_v355 N) ⟨a⟩ ty bd a1 a2 a3 a4 a5) _
  unfold TV at ha
  cases a <;> (
    refine W.bind ha ?_
    rintro _ rfl
    exact W.ret.2 rfl)
end
end
def su : TU → judge_side
  | .own n => .own_ n
  | .of v n => .of_ v n
  | .lit v => .lit_ v
def sd : TS → judge_side
  | .u a => su a
  | .op k s a => .sum_ k (sd s) (su a)
def trt : TT → judge_truth
  | .or a b => .or_ (trt a) (trt b)
  | .and a b => .and_ (trt a) (trt b)
  | .not a => .not_ (trt a)
  | .test o a b => .test_ o (sd a) (sd b)
theorem ix_at {α : Type} {l pre suf : List α} {e : α} (h : l = pre ++ e :: suf) : ix l (pre.length : Int) = some e := by
  subst h
  rw [ix_nat']; simp
theorem w_ru (a : TU) {l pre suf : List pred_Node} (h : l = pre ++ a.nd :: suf) (hl : l.length ≤ 30) : W (fun N => (SS_judge_reader_side_v501 N) l (pre.length : Int)) (· = (su a, l, ((pre.length : Int) + 1))) := by
  have hp : pre.length ≤ 30 := by rw [h] at hl; simp at hl; omega
  refine W.shift ?_
  show W (fun N => b_judge_reader_side_v501 N (SS_judge_reader_side_v501 N) l (pre.length : Int)) _
  simp only [b_judge_reader_side_v501, ix_at h, W.some, W.gd, i64b_eq]
  refine ⟨by omega, ?_⟩
  cases a <;> exact W.ret.2 rfl
theorem w_rs : ∀ (s : TS) {l pre suf : List pred_Node} (h : l = pre ++ (s.fl ++ suf)) (hl : l.length ≤ 30), W (fun N => (SS_judge_reader_side_v501 N) l (pre.length : Int)) (· = (sd s, l, ((pre.length + s.fl.length : Nat) : Int)))
  | .u a, l, pre, suf, h, hl => by
    refine (w_ru a (by rw [h]; rfl) hl).mp ?_
    rintro _ rfl
    simp [sd, TS.fl]
  | .op k s a, l, pre, suf, h, hl => by
    have hp : pre.length ≤ 30 := by rw [h] at hl; simp at hl; omega
    have h0 : l = pre ++ bn (if k then 6 else 5) :: (s.fl ++ ([a.nd] ++ suf)) := by rw [h]; simp [TS.fl]
    have h1 : l = (pre ++ [bn (if k then 6 else 5)]) ++ (s.fl ++ ([a.nd] ++ suf)) := by rw [h0]; simp
    have h2 : l = ((pre ++ [bn (if k then 6 else 5)]) ++ s.fl) ++ a.nd :: suf := by rw [h0]; simp
    have i1 := w_rs s h1 hl
    have i2 := w_ru a h2 hl
    refine W.shift ?_
    show W (fun N => b_judge_reader_side_v501 N (SS_judge_reader_side_v501 N) l (pre.length : Int)) _
    simp only [b_judge_reader_side_v501, ix_at h0, W.some, W.gd, i64b_eq, bothN_eq]
    refine ⟨by omega, ?_⟩
    have hk : ((bn (if k then 6 else 5)).Kind == 9) = false ∧ ((bn (if k then 6 else 5)).Kind == 7) = false ∧ ((bn (if k then 6 else 5)).Kind == 8) = false ∧ ((bn (if k then 6 else 5)).Kind == 6) = k := by cases k <;> decide
    simp only [hk.1, hk.2.1, hk.2.2.1, hk.2.2.2, cond_false]
    rw [show ((pre.length : Int) + 1) = ((pre ++ [bn (if k then 6 else 5)]).length : Int) by simp]
    refine W.bind i1 ?_
    rintro _ rfl
    rw [show (((pre ++ [bn (if k then 6 else 5)]).length + s.fl.length : Nat) : Int) = (((pre ++ [bn (if k then 6 else 5)]) ++ s.fl).length : Int) by simp; omega]
    refine W.bind i2 ?_
    rintro _ rfl
    refine W.ret.2 ?_
    simp [sd, TS.fl]; omega
theorem w_rt : ∀ (t : TT) {l pre suf : List pred_Node} (h : l = pre ++ (t.fl ++ suf)) (hl : l.length ≤ 30), W (fun N => (SS_judge_reader_truth_v501 N) l (pre.length : Int)) (· = (trt t, l, ((pre.length + t.fl.length : Nat) : Int)))
  | .and a b, l, pre, suf, h, hl => by
    have hp : pre.length ≤ 30 := by rw [h] at hl; simp at hl; omega
    have h0 : l = pre ++ bn 1 :: (a.fl ++ (b.fl ++ suf)) := by rw [h]; simp [TT.fl]
    have h1 : l = (pre ++ [bn 1]) ++ (a.fl ++ (b.fl ++ suf)) := by rw [h0]; simp
    have h2 : l = ((pre ++ [bn 1]) ++ a.fl) ++ (b.fl ++ suf) := by rw [h0]; simp
    have i1 := w_rt a h1 hl
    have i2 := w_rt b h2 hl
    refine W.shift ?_
    show W (fun N => b_judge_reader_truth_v501 N (SS_judge_reader_truth_v501 N) l (pre.length : Int)) _
    simp only [b_judge_reader_truth_v501, ix_at h0, W.some, W.gd, i64b_eq]
    refine ⟨by omega, ?_⟩
    simp only [show ((bn 1).Kind == 1) = true from rfl, cond_true]
    rw [show ((pre.length : Int) + 1) = ((pre ++ [bn 1]).length : Int) by simp]
    refine W.bind i1 ?_
    rintro _ rfl
    rw [show (((pre ++ [bn 1]).length + a.fl.length : Nat) : Int) = (((pre ++ [bn 1]) ++ a.fl).length : Int) by simp; omega]
    refine W.bind i2 ?_
    rintro _ rfl
    refine W.ret.2 ?_
    simp [trt, TT.fl]; omega
  | .or a b, l, pre, suf, h, hl => by
    have hp : pre.length ≤ 30 := by rw [h] at hl; simp at hl; omega
    have h0 : l = pre ++ bn 2 :: (a.fl ++ (b.fl ++ suf)) := by rw [h]; simp [TT.fl]
    have h1 : l = (pre ++ [bn 2]) ++ (a.fl ++ (b.fl ++ suf)) := by rw [h0]; simp
    have h2 : l = ((pre ++ [bn 2]) ++ a.fl) ++ (b.fl ++ suf) := by rw [h0]; simp
    have i1 := w_rt a h1 hl
    have i2 := w_rt b h2 hl
    refine W.shift ?_
    show W (fun N => b_judge_reader_truth_v501 N (SS_judge_reader_truth_v501 N) l (pre.length : Int)) _
    simp only [b_judge_reader_truth_v501, ix_at h0, W.some, W.gd, i64b_eq]
    refine ⟨by omega, ?_⟩
    simp only [show ((bn 2).Kind == 1) = false from rfl, show ((bn 2).Kind == 2) = true from rfl, cond_true, cond_false]
    rw [show ((pre.length : Int) + 1) = ((pre ++ [bn 2]).length : Int) by simp]
    refine W.bind i1 ?_
    rintro _ rfl
    rw [show (((pre ++ [bn 2]).length + a.fl.length : Nat) : Int) = (((pre ++ [bn 2]) ++ a.fl).length : Int) by simp; omega]
    refine W.bind i2 ?_
    rintro _ rfl
    refine W.ret.2 ?_
    simp [trt, TT.fl]; omega
  | .not a, l, pre, suf, h, hl => by
    have hp : pre.length ≤ 30 := by rw [h] at hl; simp at hl; omega
    have h0 : l = pre ++ bn 3 :: (a.fl ++ suf) := by rw [h]; simp [TT.fl]
    have h1 : l = (pre ++ [bn 3]) ++ (a.fl ++ suf) := by rw [h0]; simp
    have i1 := w_rt a h1 hl
    refine W.shift ?_
    show W (fun N => b_judge_reader_truth_v501 N (SS_judge_reader_truth_v501 N) l (pre.length : Int)) _
    simp only [b_judge_reader_truth_v501, ix_at h0, W.some, W.gd, i64b_eq]
    refine ⟨by omega, ?_⟩
    simp only [show ((bn 3).Kind == 1) = false from rfl, show ((bn 3).Kind == 2) = false from rfl, show ((bn 3).Kind == 3) = true from rfl, cond_true, cond_false]
    rw [show ((pre.length : Int) + 1) = ((pre ++ [bn 3]).length : Int) by simp]
    refine W.bind i1 ?_
    rintro _ rfl
    refine W.ret.2 ?_
    simp [trt, TT.fl]; omega
  | .test o a b, l, pre, suf, h, hl => by
    have hp : pre.length ≤ 30 := by rw [h] at hl; simp at hl; omega
    have h0 : l = pre ++ ⟨4, o, [], [], zv⟩ :: (a.fl ++ (b.fl ++ suf)) := by rw [h]; simp [TT.fl]
    have h1 : l = (pre ++ [⟨4, o, [], [], zv⟩]) ++ (a.fl ++ (b.fl ++ suf)) := by rw [h0]; simp
    have h2 : l = ((pre ++ [⟨4, o, [], [], zv⟩]) ++ a.fl) ++ (b.fl ++ suf) := by rw [h0]; simp
    have i1 := w_rs a h1 hl
    have i2 := w_rs b h2 hl
    refine W.shift ?_
    show W (fun N => b_judge_reader_truth_v501 N (SS_judge_reader_truth_v501 N) l (pre.length : Int)) _
    simp only [b_judge_reader_truth_v501, ix_at h0, W.some, W.gd, i64b_eq, bothN_eq]
    refine ⟨by omega, ?_⟩
    simp only [show ((4 : Int) == 1) = false from rfl, show ((4 : Int) == 2) = false from rfl, show ((4 : Int) == 3) = false from rfl, cond_false]
    rw [show ((pre.length : Int) + 1) = ((pre ++ [(⟨4, o, [], [], zv⟩ : pred_Node)]).length : Int) by simp]
    refine W.bind (f := fun N => s_judge_reader_side_v501 N l _) i1 ?_
    rintro _ rfl
    rw [show (((pre ++ [(⟨4, o, [], [], zv⟩ : pred_Node)]).length + a.fl.length : Nat) : Int) = (((pre ++ [(⟨4, o, [], [], zv⟩ : pred_Node)]) ++ a.fl).length : Int) by simp; omega]
    refine W.bind (f := fun N => s_judge_reader_side_v501 N l _) i2 ?_
    rintro _ rfl
    refine W.ret.2 ?_
    simp [trt, TT.fl]; omega
section
theorem t_pos : ∀ t : TT, 1 ≤ t.fl.length
  | .or a b => by simp [TT.fl]
  | .and a b => by simp [TT.fl]
  | .not a => by simp [TT.fl]
  | .test o a b => by simp [TT.fl]
end
section
/-- What holds of a test that may be. -/
theorem w_holds {t : TT} (hl : t.fl.length ≤ 30) (hc : chk t.fl = 0) {ty : List schema_Type} {bd : List bind_Pair} {e : event_Event} {b : Bool} (h : TV ty bd e.Time e.Source e.Seq e.Type_ e.Vals (trt t) b) : W (fun N => s_judge_Holds N t.fl ty bd e) (· = b) := by
  have hp := t_pos t
  simp only [s_judge_Holds, bothN_eq]
  refine W.call (w_check t.fl) ?_
  rintro _ rfl
  rw [hc]
  simp only [show ((0 : Int) != 0) = false from rfl, cond_false]
  rw [show ((t.fl.length : Int) == 0) = false from beq_eq_false_iff_ne.2 (by omega)]
  simp only [cond_false]
  have hr := w_rt t (l := t.fl) (pre := []) (suf := []) (by simp) hl
  refine W.bind (f := fun N => s_judge_reader_truth_v501 N t.fl 0) hr ?_
  rintro _ rfl
  unfold TV at h
  cases ht : trt t <;> (
    rw [ht] at h
    refine W.bind h ?_
    rintro _ rfl
    exact W.ret.2 rfl)
theorem w_holds0 (ty : List schema_Type) (bd : List bind_Pair) (e : event_Event) : W (fun N => s_judge_Holds N [] ty bd e) (· = true) := by
  simp only [s_judge_Holds]
  refine W.call (w_check []) ?_
  rintro _ rfl
  exact W.ret.2 rfl
theorem w_holdsX {l : List pred_Node} (hl : l ≠ []) (hc : ¬ chk l = 0) (ty : List schema_Type) (bd : List bind_Pair) (e : event_Event) : W (fun N => s_judge_Holds N l ty bd e) (· = false) := by
  simp only [s_judge_Holds]
  refine W.call (w_check l) ?_
  rintro _ rfl
  rw [show (chk l != 0) = true by simpa using hc]
  exact W.ret.2 rfl
end
section
set_option maxHeartbeats 2000000
def snm : judge_side → List (List UInt8)
  | .lit_ _ => []
  | .of_ n _ => [n]
  | .own_ _ => []
  | .sum_ _ a b => snm a ++ snm b
def tnm : judge_truth → List (List UInt8)
  | .and_ a b => tnm a ++ tnm b
  | .or_ a b => tnm a ++ tnm b
  | .not_ a => tnm a
  | .test_ _ a b => snm a ++ snm b
section
variable (ty : List schema_Type) (b1 b2 : List bind_Pair) (a1 a2 a3 : Int) (a4 : List UInt8) (a5 : List value_Value)
abbrev eV (bd : List bind_Pair) (v : value_Value) (i : Bool) (r : value_Value × Bool × envT) : Prop := r = (v, i, ty, bd, a1, a2, a3, a4, a5)
def SV (bd : List bind_Pair) (s : judge_side) (v : value_Value) (i : Bool) : Prop := W (fun N => sideS ty bd a1 a2 a3 a4 a5 N s) (eV ty a1 a2 a3 a4 a5 bd v i)
theorem w_k1v (p : Nat → TS_judge_sum_value_v486) (t : judge_sum) (x x2 x3 : Int) (x4 : List UInt8) (x5 : Bool) (x6 x7 x8 : Int) (x9 : List UInt8) (x10 : Bool) :
    ∃ v i, ∀ bd, W (fun N => s_judge_sum_value_v486_k1 N (p N) t x x2 x3 x4 x5 x6 x7 x8 x9 x10 ty bd a1 a2 a3 a4 a5) (eV ty a1 a2 a3 a4 a5 bd v i) := by
  cases x5 with
  | false => exact ⟨⟨0, 0, 0, []⟩, false, fun bd => by simp only [s_judge_sum_value_v486_k1, Bool.not_false, cond_true]; exact W.ret.2 rfl⟩
  | true =>
    cases x10 with
    | false => exact ⟨⟨0, 0, 0, []⟩, false, fun bd => by simp only [s_judge_sum_value_v486_k1, Bool.not_true, Bool.not_false, cond_true, cond_false]; exact W.ret.2 rfl⟩
    | true =>
      obtain ⟨m, a, b⟩ := t
      cases m with
      | true =>
        obtain ⟨r, hr, _⟩ := tot_W (tot_minus (⟨x, x2, x3, x4⟩ : value_Value) ⟨x6, x7, x8, x9⟩) (f := fun N => s_compare_Minus N ⟨x, x2, x3, x4⟩ ⟨x6, x7, x8, x9⟩) fun _ => rfl
        refine ⟨r.1, r.2, fun bd => ?_⟩
        simp only [s_judge_sum_value_v486_k1, Bool.not_true, cond_true, cond_false]
        refine W.call (f := fun N => s_compare_Minus N ⟨x, x2, x3, x4⟩ ⟨x6, x7, x8, x9⟩) (P := (· = r)) ⟨r, hr, rfl⟩ ?_
        rintro _ rfl
        exact W.ret.2 rfl
      | false =>
        obtain ⟨r, hr, _⟩ := tot_W (tot_plus (⟨x, x2, x3, x4⟩ : value_Value) ⟨x6, x7, x8, x9⟩) (f := fun N => s_compare_Plus N ⟨x, x2, x3, x4⟩ ⟨x6, x7, x8, x9⟩) fun _ => rfl
        refine ⟨r.1, r.2, fun bd => ?_⟩
        simp only [s_judge_sum_value_v486_k1, Bool.not_true, cond_true, cond_false]
        refine W.call (f := fun N => s_compare_Plus N ⟨x, x2, x3, x4⟩ ⟨x6, x7, x8, x9⟩) (P := (· = r)) ⟨r, hr, rfl⟩ ?_
        rintro _ rfl
        exact W.ret.2 rfl
theorem side2 (hty : small ty) (h1 : b1.length ≤ 20) (h2 : b2.length ≤ 20) : ∀ s : judge_side, (∀ v ∈ snm s, lastB b1 v = lastB b2 v) → ∃ v i, SV ty a1 a2 a3 a4 a5 b1 s v i ∧ SV ty a1 a2 a3 a4 a5 b2 s v i
  | .lit_ v, _ => ⟨_, _, W.ret.2 rfl, W.ret.2 rfl⟩
  | .of_ n f, hag => by
    have e := hag n (by simp [snm])
    have key : ∀ bd : List bind_Pair, bd.length ≤ 20 → lastB bd n = lastB b2 n → ∀ (r : value_Value × Bool), (bif !(lastB b2 n).2 then r = ((value_Value.mk 0 0 0 []), false) else Tl (fun N => s_event_Event_Value N (lastB b2 n).1 ty f) r) → SV ty a1 a2 a3 a4 a5 bd (.of_ n f) r.1 r.2 := by
      intro bd hbd e r hr
      show W (fun N => s_judge_of_value_v421 N ⟨n, f⟩ ty bd a1 a2 a3 a4 a5) _
      simp only [s_judge_of_value_v421, s_bind_Last]
      rw [show Nat.ble bd.length 1000000 = true from Nat.ble_eq_true_of_le (by omega)]
      simp only [gd_true, Option.bind_some, e]
      cases hl : (lastB b2 n).2 with
      | false =>
        rw [hl] at hr
        simp only [Bool.not_false, cond_true] at hr ⊢
        subst hr
        exact W.ret.2 rfl
      | true =>
        rw [hl] at hr
        simp only [Bool.not_true, cond_false] at hr ⊢
        refine W.call (f := fun N => s_event_Event_Value N (lastB b2 n).1 ty f) (P := (· = r)) ⟨r, hr, rfl⟩ ?_
        rintro _ rfl
        exact W.ret.2 rfl
    cases hl : (lastB b2 n).2 with
    | false => exact ⟨_, _, key b1 h1 e _ (by rw [hl]; rfl), key b2 h2 rfl _ (by rw [hl]; rfl)⟩
    | true =>
      obtain ⟨r, hr, _⟩ := w_ev (lastB b2 n).1 ty f hty
      exact ⟨r.1, r.2, key b1 h1 e r (by rw [hl]; exact hr), key b2 h2 rfl r (by rw [hl]; exact hr)⟩
  | .own_ n, _ => by
    obtain ⟨r, hr, _⟩ := w_ev (⟨a1, a2, a3, a4, a5⟩ : event_Event) ty n hty
    have key : ∀ bd : List bind_Pair, SV ty a1 a2 a3 a4 a5 bd (.own_ n) r.1 r.2 := by
      intro bd
      show W (fun N => s_judge_own_value_v282 N ⟨n⟩ ty bd a1 a2 a3 a4 a5) _
      simp only [s_judge_own_value_v282]
      refine W.call (f := fun N => s_event_Event_Value N ⟨a1, a2, a3, a4, a5⟩ ty n) (P := (· = r)) ⟨r, hr, rfl⟩ ?_
      rintro _ rfl
      exact W.ret.2 rfl
    exact ⟨_, _, key b1, key b2⟩
  | .sum_ m a b, hag => by
    obtain ⟨va, ia, ha1, ha2⟩ := side2 hty h1 h2 a fun v hv => hag v (by simp [snm, hv])
    obtain ⟨vb, ib, hb1, hb2⟩ := side2 hty h1 h2 b fun v hv => hag v (by simp [snm, hv])
    obtain ⟨v, i, hk⟩ := w_k1v ty a1 a2 a3 a4 a5 (fun N => SS_judge_sum_value_v486 N) ⟨m, a, b⟩ va.Kind va.N va.Bits va.Text ia vb.Kind vb.N vb.Bits vb.Text ib
    have key : ∀ bd : List bind_Pair, SV ty a1 a2 a3 a4 a5 bd a va ia → SV ty a1 a2 a3 a4 a5 bd b vb ib → SV ty a1 a2 a3 a4 a5 bd (.sum_ m a b) v i := by
      intro bd ha hb
      show W (fun N => (SS_judge_sum_value_v486 N) ⟨m, a, b⟩ ty bd a1 a2 a3 a4 a5) _
      refine W.shift ?_
      show W (fun N => b_judge_sum_value_v486 N (SS_judge_sum_value_v486 N) ⟨m, a, b⟩ ty bd a1 a2 a3 a4 a5) _
      unfold SV at ha hb
      have hk0 : W (fun N => s_judge_sum_value_v486_k0 N (SS_judge_sum_value_v486 N) ⟨m, a, b⟩ va.Kind va.N va.Bits va.Text ia ty bd a1 a2 a3 a4 a5) (eV ty a1 a2 a3 a4 a5 bd v i) := by
        have fin : ∀ r : value_Value × Bool × envT, eV ty a1 a2 a3 a4 a5 bd vb ib r → W (fun N => s_judge_sum_value_v486_k1 N (SS_judge_sum_value_v486 N) ⟨m, a, b⟩ va.Kind va.N va.Bits va.Text ia r.1.Kind r.1.N r.1.Bits r.1.Text r.2.1 r.2.2.1 r.2.2.2.1 r.2.2.2.2.1 r.2.2.2.2.2.1 r.2.2.2.2.2.2.1 r.2.2.2.2.2.2.2.1 r.2.2.2.2.2.2.2.2) (eV ty a1 a2 a3 a4 a5 bd v i) := by
          rintro _ rfl
          exact hk bd
        cases b <;> exact W.bind hb fin
      have fin0 : ∀ r : value_Value × Bool × envT, eV ty a1 a2 a3 a4 a5 bd va ia r → W (fun N => s_judge_sum_value_v486_k0 N (SS_judge_sum_value_v486 N) ⟨m, a, b⟩ r.1.Kind r.1.N r.1.Bits r.1.Text r.2.1 r.2.2.1 r.2.2.2.1 r.2.2.2.2.1 r.2.2.2.2.2.1 r.2.2.2.2.2.2.1 r.2.2.2.2.2.2.2.1 r.2.2.2.2.2.2.2.2) (eV ty a1 a2 a3 a4 a5 bd v i) := by
        rintro _ rfl
        exact hk0
      cases a <;> exact W.bind ha fin0
    exact ⟨v, i, key b1 ha1 hb1, key b2 ha2 hb2⟩
theorem test2 (hty : small ty) (h1 : b1.length ≤ 20) (h2 : b2.length ≤ 20) (o : Int) (a b : judge_side) (hag : ∀ v ∈ snm a ++ snm b, lastB b1 v = lastB b2 v) : ∃ x, TV ty b1 a1 a2 a3 a4 a5 (.test_ o a b) x ∧ TV ty b2 a1 a2 a3 a4 a5 (.test_ o a b) x := by
  obtain ⟨va, ia, ha1, ha2⟩ := side2 ty b1 b2 a1 a2 a3 a4 a5 hty h1 h2 a fun v hv => hag v (by simp [hv])
  obtain ⟨vb, ib, hb1, hb2⟩ := side2 ty b1 b2 a1 a2 a3 a4 a5 hty h1 h2 b fun v hv => hag v (by simp [hv])
  obtain ⟨x, hk⟩ : ∃ x, ∀ bd, W (fun N => s_judge_test_holds_v233_k1 N ⟨o, a, b⟩ va.Kind va.N va.Bits va.Text ia vb.Kind vb.N vb.Bits vb.Text ib ty bd a1 a2 a3 a4 a5) (envQ ty bd a1 a2 a3 a4 a5 x) := by
    cases ia with
    | false => exact ⟨false, fun bd => by simp only [s_judge_test_holds_v233_k1, cond_false]; exact W.ret.2 rfl⟩
    | true =>
      cases ib with
      | false => exact ⟨false, fun bd => by simp only [s_judge_test_holds_v233_k1, cond_true, cond_false]; exact W.ret.2 rfl⟩
      | true =>
        obtain ⟨r, hr, _⟩ := tot_W (tot_holds o (⟨va.Kind, va.N, va.Bits, va.Text⟩ : value_Value) ⟨vb.Kind, vb.N, vb.Bits, vb.Text⟩) (f := fun N => s_compare_Holds N o ⟨va.Kind, va.N, va.Bits, va.Text⟩ ⟨vb.Kind, vb.N, vb.Bits, vb.Text⟩) fun _ => rfl
        refine ⟨r, fun bd => ?_⟩
        simp only [s_judge_test_holds_v233_k1, cond_true]
        refine W.call (f := fun N => s_compare_Holds N o ⟨va.Kind, va.N, va.Bits, va.Text⟩ ⟨vb.Kind, vb.N, vb.Bits, vb.Text⟩) (P := (· = r)) ⟨r, hr, rfl⟩ ?_
        rintro _ rfl
        exact W.ret.2 rfl
  have key : ∀ bd : List bind_Pair, SV ty a1 a2 a3 a4 a5 bd a va ia → SV ty a1 a2 a3 a4 a5 bd b vb ib → TV ty bd a1 a2 a3 a4 a5 (.test_ o a b) x := by
    intro bd ha hb
    show W (fun N => s_judge_test_holds_v233 N ⟨o, a, b⟩ ty bd a1 a2 a3 a4 a5) _
    unfold SV at ha hb
    have hk0 : W (fun N => s_judge_test_holds_v233_k0 N ⟨o, a, b⟩ va.Kind va.N va.Bits va.Text ia ty bd a1 a2 a3 a4 a5) (envQ ty bd a1 a2 a3 a4 a5 x) := by
      have fin : ∀ r : value_Value × Bool × envT, eV ty a1 a2 a3 a4 a5 bd vb ib r → W (fun N => s_judge_test_holds_v233_k1 N ⟨o, a, b⟩ va.Kind va.N va.Bits va.Text ia r.1.Kind r.1.N r.1.Bits r.1.Text r.2.1 r.2.2.1 r.2.2.2.1 r.2.2.2.2.1 r.2.2.2.2.2.1 r.2.2.2.2.2.2.1 r.2.2.2.2.2.2.2.1 r.2.2.2.2.2.2.2.2) (envQ ty bd a1 a2 a3 a4 a5 x) := by
        rintro _ rfl
        exact hk bd
      cases b <;> exact W.bind hb fin
    have fin0 : ∀ r : value_Value × Bool × envT, eV ty a1 a2 a3 a4 a5 bd va ia r → W (fun N => s_judge_test_holds_v233_k0 N ⟨o, a, b⟩ r.1.Kind r.1.N r.1.Bits r.1.Text r.2.1 r.2.2.1 r.2.2.2.1 r.2.2.2.2.1 r.2.2.2.2.2.1 r.2.2.2.2.2.2.1 r.2.2.2.2.2.2.2.1 r.2.2.2.2.2.2.2.2) (envQ ty bd a1 a2 a3 a4 a5 x) := by
      rintro _ rfl
      exact hk0
    cases a <;> exact W.bind ha fin0
  exact ⟨x, key b1 ha1 hb1, key b2 ha2 hb2⟩
theorem truth2 (hty : small ty) (h1 : b1.length ≤ 20) (h2 : b2.length ≤ 20) : ∀ t : judge_truth, (∀ v ∈ tnm t, lastB b1 v = lastB b2 v) → ∃ x, TV ty b1 a1 a2 a3 a4 a5 t x ∧ TV ty b2 a1 a2 a3 a4 a5 t x
  | .and_ a b, hag => by
    obtain ⟨x, x1, x2⟩ := truth2 hty h1 h2 a fun v hv => hag v (by simp [tnm, hv])
    obtain ⟨y, y1, y2⟩ := truth2 hty h1 h2 b fun v hv => hag v (by simp [tnm, hv])
    exact ⟨_, TV_and ty b1 a1 a2 a3 a4 a5 x1 y1, TV_and ty b2 a1 a2 a3 a4 a5 x2 y2⟩
  | .or_ a b, hag => by
    obtain ⟨x, x1, x2⟩ := truth2 hty h1 h2 a fun v hv => hag v (by simp [tnm, hv])
    obtain ⟨y, y1, y2⟩ := truth2 hty h1 h2 b fun v hv => hag v (by simp [tnm, hv])
    exact ⟨_, TV_or ty b1 a1 a2 a3 a4 a5 x1 y1, TV_or ty b2 a1 a2 a3 a4 a5 x2 y2⟩
  | .not_ a, hag => by
    obtain ⟨x, x1, x2⟩ := truth2 hty h1 h2 a fun v hv => hag v (by simp [tnm, hv])
    exact ⟨_, TV_not ty b1 a1 a2 a3 a4 a5 x1, TV_not ty b2 a1 a2 a3 a4 a5 x2⟩
  | .test_ o a b, hag => test2 ty b1 b2 a1 a2 a3 a4 a5 hty h1 h2 o a b hag
end
theorem lastB_app (v : List UInt8) (b : List bind_Pair) : ∀ a : List bind_Pair, lastB (a ++ b) v = if (lastB b v).2 = true then lastB b v else lastB a v
  | [] => by
    cases h : lastB b v with
    | mk e i =>
      cases i with
      | true => simp [h]
      | false =>
        simp only [List.nil_append, h, Bool.false_eq_true, if_false]
        have : ∀ (l : List bind_Pair) e, lastB l v = (e, false) → e = ⟨0, 0, 0, [], []⟩ := by
          intro l
          cases l with
          | nil => intro e h; simp only [lastB, Prod.mk.injEq] at h; exact h.1.symm
          | cons p l =>
            intro e h
            simp only [lastB] at h
            split at h
            · cases h
            · cases hp : (p.Var == v) <;> rw [hp] at h <;> simp at h
              exact h.symm
        rw [this b e h]; rfl
  | p :: a => by
    have ih := lastB_app v b a
    simp only [List.cons_append, lastB, ih]
    cases h : lastB b v with
    | mk e i =>
      cases i with
      | true => simp
      | false => simp
theorem last_same {pre post : List bind_Pair} {p : bind_Pair} {v : List UInt8} (h : p.Var ≠ v ∨ ∃ q ∈ post, q.Var = p.Var) : lastB (pre ++ p :: post) v = lastB (pre ++ post) v := by
  have hin : ∀ (l : List bind_Pair), (∃ q ∈ l, q.Var = v) → (lastB l v).2 = true := by
    intro l
    induction l with
    | nil => rintro ⟨q, hq, _⟩; cases hq
    | cons a l ih =>
      rintro ⟨q, hq, e⟩
      simp only [lastB]
      cases hl : lastB l v with
      | mk e' i =>
        cases i with
        | true => rfl
        | false =>
          rcases List.mem_cons.1 hq with rfl | hq
          · rw [show (q.Var == v) = true by rw [e]; simp]; rfl
          · have := ih ⟨q, hq, e⟩
            rw [hl] at this; cases this
  rw [lastB_app, lastB_app, show lastB (p :: post) v = (if (lastB post v).2 = true then lastB post v else bif p.Var == v then (p.E, true) else (⟨0, 0, 0, [], []⟩, false)) by
    simp only [lastB]
    cases hl : lastB post v with
    | mk e i => cases i <;> rfl]
  cases hl : (lastB post v).2 with
  | true => simp [hl]
  | false =>
    have hne : p.Var ≠ v := by
      rcases h with h | ⟨q, hq, e⟩
      · exact h
      · intro e2
        have := hin post ⟨q, hq, by rw [e, e2]⟩
        rw [hl] at this; cases this
    rw [show (p.Var == v) = false from beq_eq_false_iff_ne.2 hne]
    simp [hl]
end
theorem W.both {ι : Type} [Lim ι] {R : Type} {q : EqR R} {f g : ι → Option R} {r : R} (h : W f (· = r)) (h' : W g (· = r)) : W (fun i => both q (f i) (g i)) (· = r) := by
  unfold Go.Proofs.YtbanfalnbhcknaaGreatDoor.Y.both
  refine W.bind h ?_
  rintro _ rfl
  refine W.bind h' ?_
  rintro _ rfl
  simp only [EqR.refl, W.ret]
theorem su_nm (a : TU) : ∀ v ∈ snm (su a), a.nd.Kind = 8 ∧ a.nd.Var = v := by
  cases a <;> simp [su, snm, TU.nd]
theorem sd_nm : ∀ (s : TS), ∀ v ∈ snm (sd s), ∃ n ∈ s.fl, n.Kind = 8 ∧ n.Var = v
  | .u a, v, h => ⟨a.nd, by simp [TS.fl], su_nm a v h⟩
  | .op k s a, v, h => by
    simp only [sd, snm, List.mem_append] at h
    rcases h with h | h
    · obtain ⟨n, h1, h2⟩ := sd_nm s v h
      exact ⟨n, by rw [TS.fl]; simp [h1], h2⟩
    · exact ⟨a.nd, by rw [TS.fl]; simp, su_nm a v h⟩
theorem tr_nm : ∀ (t : TT), ∀ v ∈ tnm (trt t), ∃ n ∈ t.fl, n.Kind = 8 ∧ n.Var = v
  | .or a b, v, h => by
    simp only [trt, tnm, List.mem_append] at h
    rcases h with h | h
    · obtain ⟨n, h1, h2⟩ := tr_nm a v h
      exact ⟨n, by rw [TT.fl]; simp [h1], h2⟩
    · obtain ⟨n, h1, h2⟩ := tr_nm b v h
      exact ⟨n, by rw [TT.fl]; simp [h1], h2⟩
  | .and a b, v, h => by
    simp only [trt, tnm, List.mem_append] at h
    rcases h with h | h
    · obtain ⟨n, h1, h2⟩ := tr_nm a v h
      exact ⟨n, by rw [TT.fl]; simp [h1], h2⟩
    · obtain ⟨n, h1, h2⟩ := tr_nm b v h
      exact ⟨n, by rw [TT.fl]; simp [h1], h2⟩
  | .not a, v, h => by
    simp only [trt, tnm] at h
    obtain ⟨n, h1, h2⟩ := tr_nm a v h
    exact ⟨n, by rw [TT.fl]; simp [h1], h2⟩
  | .test o a b, v, h => by
    simp only [trt, tnm, List.mem_append] at h
    rcases h with h | h
    · obtain ⟨n, h1, h2⟩ := sd_nm a v h
      exact ⟨n, by rw [TT.fl]; simp [h1], h2⟩
    · obtain ⟨n, h1, h2⟩ := sd_nm b v h
      exact ⟨n, by rw [TT.fl]; simp [h1], h2⟩
theorem mem_comp {l : List (List UInt8)} {v : List UInt8} (h : v ∈ l) : v ∈ compS l := by
  obtain ⟨j, hj, hv⟩ := List.getElem_of_mem h
  have key : ∀ (m j : Nat) (_ : j ≤ m) (hj : j < l.length), l[j] = v → v ∈ compS l := by
    intro m
    induction m with
    | zero =>
      intro j hm hj e
      have : j = 0 := by omega
      subst this
      unfold compS
      refine List.mem_map.2 ⟨0, List.mem_filter.2 ⟨List.mem_range.2 hj, by simp⟩, ?_⟩
      simp [hj, e]
    | succ m ih =>
      intro j hm hj e
      by_cases h0 : j = 0
      · exact ih j (by omega) hj e
      · by_cases hp : l[j - 1]'(by omega) = v
        · exact ih (j - 1) (by omega) (by omega) hp
        · unfold compS
          refine List.mem_map.2 ⟨j, List.mem_filter.2 ⟨List.mem_range.2 hj, ?_⟩, by simp [hj, e]⟩
          have h1 : j - 1 < l.length := by omega
          simp [hj, h1, e, h0]
          exact fun q => hp q.symm
  exact key j j (Nat.le_refl _) hj hv
theorem w_vars (l : List pred_Node) (hl : l.length ≤ 1000) : W (fun N => s_pred_Vars N l) (fun r => r.length ≤ 1000 ∧ ∀ n ∈ l, n.Kind = 8 → n.Var ∈ r) := by
  simp only [s_pred_Vars]
  refine wf2a (l := l) (fun pre ys => ys.length ≤ pre.length ∧ ∀ n ∈ pre, n.Kind = 8 → n.Var ∈ ys) [] rfl rfl (by omega) ⟨Nat.le_refl _, by simp⟩ ?_ ?_
  · rintro F pre e rest ys hl' h1 h2 h3 ⟨hy, hm⟩ hn
    have hpl : pre.length < l.length := by rw [hl']; simp
    simp only [s_pred_Vars_1, h1, h2, Option.bind_some, cond_true, h3, gd_true]
    refine W.cond.2 ⟨fun hk => ?_, fun hk => hn _ ⟨by simp; omega, ?_⟩⟩
    · simp only [W.gd]
      refine ⟨Nat.ble_eq_true_of_le (by omega), hn _ ⟨by simp; omega, ?_⟩⟩
      intro n hn hk
      rcases List.mem_append.1 hn with hn | hn
      · exact List.mem_append_left _ (hm n hn hk)
      · rw [List.mem_singleton.1 hn]; simp
    · intro n hn hk2
      rcases List.mem_append.1 hn with hn | hn
      · exact hm n hn hk2
      · rw [List.mem_singleton.1 hn] at hk2
        rw [hk2] at hk; cases hk
  · rintro F ys h1 ⟨hy, hm⟩
    have hs : (sortS ys).length = ys.length := by simp [sortS]
    have hc : (compS (sortS ys)).length ≤ (sortS ys).length := by
      unfold compS
      rw [List.length_map]
      exact Nat.le_trans (List.length_filter_le _ _) (by simp)
    simp only [s_pred_Vars_1, h1, cond_false, s_slices_Sort_string_v986, s_slices_Compact_string_v263_own, hs, show Nat.ble ys.length 4611686018427387903 = true from Nat.ble_eq_true_of_le (by omega), gd_true, Option.bind_some, W.ret]
    refine ⟨by omega, fun n hn hk => mem_comp ?_⟩
    rw [sortS, List.mem_mergeSort]
    exact hm n hn hk
theorem smB_sub {l m : List bind_Pair} (h : smB l) (hs : ∀ p ∈ m, p ∈ l) (hl : m.length ≤ l.length) : smB m := ⟨by have := h.1; omega, fun p hp => h.2 p (hs p hp)⟩
theorem full_JudgeAhead (l : List pred_Node) (s : ref20_Scene) (k : Int) (h0 : (okL ok_pred_Node) l) (h1 : ok_ref20_Scene s) (h2 : (inK .i64) k) : W (fun N => s_law20_JudgeAhead N l s k) (· = true) := by
  have hv : ∀ l : List value_Value, okL ok_value_Value l → okL (fun v : value_Value => okS v.Text) l := fun l h => ⟨fun v hv => (h.1 v hv).2.2.2, h.2⟩
  have hN : okN l := fun n hn => by
    have := (h0.1 n hn).2.2.2.2.2.2.1
    exact ⟨this.1, this.2⟩
  simp only [s_law20_JudgeAhead, s_law20_awake, Option.bind_some]
  refine W.call (w_nOver l ⟨fun n hn => (h0.1 n hn).2.2.2.2.2.2.2, h0.2⟩) fun r1 q1 => ?_
  rw [W.cond]; refine ⟨fun _ => W.ret.2 rfl, fun c1 => ?_⟩; rw [ltB_not] at c1
  refine W.call (w_sOver s (fun p hp => hv _ (h1.2.1.1 p hp).2.2.2.2.2) (hv _ h1.2.2.2.2.2.2)) fun r3 q3 => ?_
  rw [W.cond]; refine ⟨fun _ => W.ret.2 rfl, fun c5 => ?_⟩; rw [ltB_not] at c5
  obtain ⟨sm1, sm2, sm3⟩ := q3 (by omega)
  rw [W.cond]; refine ⟨fun _ => W.ret.2 rfl, fun c2 => ?_⟩; rw [ltB_not] at c2
  rw [W.cond]; refine ⟨fun _ => W.ret.2 rfl, fun c3 => ?_⟩; rw [ltB_not] at c3
  rw [W.cond]; refine ⟨fun _ => W.ret.2 rfl, fun c4 => ?_⟩; rw [leB_not] at c4
  refine W.call (w_nOwn l (by omega)) ?_
  rintro w hw
  have hw := hw.symm; subst hw
  refine W.call (w_law06_Own s.Types sm1) ?_
  rintro w hw
  have hw := hw.symm; subst hw
  refine W.call (w_eOwn s.E sm3) ?_
  rintro w hw
  have hw := hw.symm; subst hw
  refine W.call (w_bOwn s.Bound sm2) ?_
  rintro w hw
  have hw := hw.symm; subst hw
  have hl40 : l.length ≤ 1000 := by have := q1 (by omega); omega
  refine W.call (w_vars l hl40) ?_
  rintro vars ⟨hvl, hvars⟩
  obtain ⟨kn, rfl⟩ : ∃ n : Nat, k = n := ⟨k.toNat, by omega⟩
  have hkl : kn < s.Bound.length := by omega
  obtain ⟨pre, pk, post, hb, rfl⟩ : ∃ pre pk post, s.Bound = pre ++ pk :: post ∧ kn = pre.length := ⟨s.Bound.take kn, s.Bound[kn], s.Bound.drop (kn + 1), by simp, by simp; omega⟩
  have hbl : s.Bound.length = pre.length + (post.length + 1) := by rw [hb]; simp
  have hix : ix s.Bound (pre.length : Int) = some pk := by rw [ix_nat', hb]; simp
  have htk : List.take (Int.toNat (pre.length : Int)) s.Bound = pre := by rw [hb]; simp
  have hdr : List.drop (Int.toNat ((pre.length : Int) + 1)) s.Bound = post := by
    rw [show ((pre.length : Int) + 1).toNat = pre.length + 1 by omega, hb]
    simp
  have smp : smB pre := smB_sub sm2 (fun p hp => by rw [hb]; simp [hp]) (by omega)
  have smq : smB post := smB_sub sm2 (fun p hp => by rw [hb]; simp [hp]) (by omega)
  have s20 := sm2.1
  -- the heart
  have heart : (∀ v, (∃ n ∈ l, n.Kind = 8 ∧ n.Var = v) → lastB s.Bound v = lastB (pre ++ post) v) → ∀ {ι : Type} [Lim ι] (N : ι → Nat) [Tends N], W (fun i => (s_judge_Holds (N i) l s.Types s.Bound s.E).bind fun hold => (s_judge_Holds (N i) l s.Types (pre ++ post) s.E).bind fun hold2 => bif (hold == hold2) then some true else some false) (· = true) := by
    intro hag ι _ N _
    have two : ∃ b, W (fun N => s_judge_Holds N l s.Types s.Bound s.E) (· = b) ∧ W (fun N => s_judge_Holds N l s.Types (pre ++ post) s.E) (· = b) := by
      by_cases hl0 : l = []
      · subst hl0
        exact ⟨true, w_holds0 _ _ _, w_holds0 _ _ _⟩
      · by_cases hc : chk l = 0
        · obtain ⟨t, ht, hlt, _, hl30⟩ := chk_tree hN hc hl0
          subst hlt
          obtain ⟨x, x1, x2⟩ := truth2 s.Types s.Bound (pre ++ post) s.E.Time s.E.Source s.E.Seq s.E.Type_ s.E.Vals sm1 s20 (by simp; omega) (trt t) fun v hv => hag v (tr_nm t v hv)
          exact ⟨x, w_holds hl30 hc x1, w_holds hl30 hc x2⟩
        · exact ⟨false, w_holdsX hl0 hc _ _ _, w_holdsX hl0 hc _ _ _⟩
    obtain ⟨b, hb1, hb2⟩ := two
    refine W.call hb1 ?_
    rintro _ rfl
    refine W.call hb2 ?_
    rintro _ rfl
    simp only [beq_self_eq_true, cond_true, W.ret]
  have ev : (⟨s.E.Time, s.E.Source, s.E.Seq, s.E.Type_, s.E.Vals⟩ : event_Event) = s.E := rfl
  refine W.lp2 (N := fun N => N) (P := fun named i => ∃ j : Nat, i = (j : Int) ∧ j ≤ vars.length ∧ (named = true ∨ ∀ (m : Nat) v, m < j → vars[m]? = some v → v ≠ pk.Var)) (m := fun _ i => vars.length - i.toNat) ⟨0, rfl, by omega, .inr fun m v hm => by omega⟩ ?_
  rintro F named i ⟨j, rfl, hj, hnm⟩ next
  simp only [s_law20_JudgeAhead_1]
  by_cases hlt : j < vars.length
  · have hjx : ix vars (j : Int) = some vars[j] := by rw [ix_nat']; simp [hlt]
    simp only [show ltB (j : Int) (vars.length : Int) = true from ltB_iff.2 (by omega), cond_true, hjx, hix, Option.bind_some, show i64b ((j : Int) + 1) = true from i64b_eq.2 (by omega), gd_true]
    refine W.cond.2 ⟨fun hn => next _ _ ⟨j + 1, by omega, by omega, .inl rfl⟩ (by omega), fun hn => next _ _ ⟨j + 1, by omega, by omega, ?_⟩ (by omega)⟩
    cases he : (vars[j] == pk.Var) with
    | true => exact .inl rfl
    | false =>
      refine .inr fun m v hm hv => ?_
      rcases Nat.lt_or_ge m j with h' | h'
      · rcases hnm with hnm | hnm
        · rw [hn] at hnm; cases hnm
        · exact hnm m v h' hv
      · have : m = j := by omega
        subst this
        simp [hlt] at hv
        subst hv
        simpa using he
  · have hjl : j = vars.length := by omega
    subst hjl
    have hnk : named = false → ∀ v, (∃ n ∈ l, n.Kind = 8 ∧ n.Var = v) → pk.Var ≠ v := by
      rintro hn v ⟨n, hn1, hn2, rfl⟩ e
      obtain ⟨m, hm, hmv⟩ := List.getElem_of_mem (hvars n hn1 hn2)
      rcases hnm with hnm | hnm
      · rw [hn] at hnm; cases hnm
      · exact hnm m n.Var hm (by rw [List.getElem?_eq_getElem hm, hmv]) e.symm
    simp only [show ltB (vars.length : Int) (vars.length : Int) = false from ltB_not.2 (by omega), cond_false, show i64b ((pre.length : Int) + 1) = true from i64b_eq.2 (by omega), gd_true]
    refine W.lp2 (N := fun p : Nat × Nat => p.1) (P := fun last i => ∃ j : Nat, i = (j : Int) ∧ pre.length + 1 ≤ j ∧ j ≤ s.Bound.length ∧ (last = true ∨ ∃ q ∈ post, q.Var = pk.Var)) (m := fun _ i => s.Bound.length - i.toNat) ⟨pre.length + 1, by omega, by omega, by omega, .inl rfl⟩ ?_
    rintro F2 last i2 ⟨j2, rfl, g1, g2, g3⟩ next2
    simp only [s_law20_JudgeAhead_2]
    by_cases hlt2 : j2 < s.Bound.length
    · obtain ⟨q, hq⟩ : ∃ q, s.Bound[j2]? = some q := ⟨s.Bound[j2], by simp [hlt2]⟩
      have hqm : q ∈ post := by
        have : s.Bound[j2]? = post[j2 - (pre.length + 1)]? := by
          rw [hb, List.getElem?_append_right (by omega), show j2 - pre.length = (j2 - (pre.length + 1)) + 1 by omega, List.getElem?_cons_succ]
        rw [this] at hq
        exact List.mem_of_getElem? hq
      simp only [show ltB (j2 : Int) (s.Bound.length : Int) = true from ltB_iff.2 (by omega), cond_true, ix_nat' s.Bound, hq, hix, Option.bind_some, show i64b ((j2 : Int) + 1) = true from i64b_eq.2 (by omega), gd_true]
      have hix' : s.Bound[pre.length]? = some pk := by rw [← ix_nat']; exact hix
      simp only [hix', Option.bind_some]
      refine W.cond.2 ⟨fun hn => next2 _ _ ⟨j2 + 1, by omega, by omega, by omega, ?_⟩ (by omega), fun hn => next2 _ _ ⟨j2 + 1, by omega, by omega, by omega, .inr ?_⟩ (by omega)⟩
      · cases he : (q.Var == pk.Var) with
        | true => exact .inr ⟨q, hqm, by simpa using he⟩
        | false => exact .inl rfl
      · rcases g3 with g3 | g3
        · rw [hn] at g3; cases g3
        · exact g3
    · have core : (named = false ∨ last = false) → W (fun i : (Nat × Nat) × Nat => (s_law19_Pairs_own i.1.1 pre).bind fun pair2 => (s_law19_Pairs_own i.1.1 post).bind fun pair3 => gd (Nat.ble ((List.length pair2 + List.length pair3) * 80) 140737488355328) ((s_judge_Holds i.1.1 l s.Types s.Bound s.E).bind fun hold => (s_judge_Holds i.1.1 l s.Types (pair2 ++ pair3) s.E).bind fun hold2 => bif (hold == hold2) then some true else some false)) (· = true) := by
        intro hor
        refine W.call (N := fun i : (Nat × Nat) × Nat => i.1.1) (w_bOwn pre smp) ?_
        rintro _ rfl
        refine W.call (N := fun i : (Nat × Nat) × Nat => i.1.1) (w_bOwn post smq) ?_
        rintro _ rfl
        simp only [W.gd]
        refine ⟨Nat.ble_eq_true_of_le (by omega), heart (fun v hv => ?_) (fun i : (Nat × Nat) × Nat => i.1.1)⟩
        rw [hb]
        refine last_same ?_
        rcases hor with hor | hor
        · exact .inl (hnk hor v hv)
        · rcases g3 with g3 | g3
          · rw [hor] at g3; cases g3
          · exact .inr g3
      simp only [show ltB (j2 : Int) (s.Bound.length : Int) = false from ltB_not.2 (by omega), cond_false, show leB 0 (pre.length : Int) = true from leB_iff.2 (by omega), show leB (pre.length : Int) (s.Bound.length : Int) = true from leB_iff.2 (by omega), show i64b ((pre.length : Int) + 1) = true from i64b_eq.2 (by omega), show leB 0 ((pre.length : Int) + 1) = true from leB_iff.2 (by omega), show leB ((pre.length : Int) + 1) (s.Bound.length : Int) = true from leB_iff.2 (by omega), gd_true, htk, hdr, bothN_eq, s_law20_awake, Option.bind_some, ev]
      refine W.cond.2 ⟨fun hn => W.cond.2 ⟨fun _ => W.ret.2 rfl, fun hla => ?_⟩, fun hn => ?_⟩
      · exact W.both (core (.inr hla)) (W.both (core (.inr hla)) (core (.inr hla)))
      · exact W.both (core (.inl hn)) (W.both (core (.inl hn)) (core (.inl hn)))
end Go.Proofs.YtbanfalnbhcknaaGreatDoor.Y
