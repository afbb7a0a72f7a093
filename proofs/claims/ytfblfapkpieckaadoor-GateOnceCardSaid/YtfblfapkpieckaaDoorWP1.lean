/- What the law is handed, told as what its plain text takes. No premise beyond what each theorem says. -/
import Derived.Test.YtfblfapkpieckaaDoorWG1
import Derived.Test.YtfblfapkpieckaaDoorWA3
import Derived.Test.YtfblfapkpieckaaDoorWA4
set_option linter.all false
set_option linter.unusedSimpArgs false
set_option linter.unusedVariables false
namespace Go.Proofs.YtfblfapkpieckaaDoor.W
open Go
open Go.Proofs.Tryd
set_option maxRecDepth 1000000
set_option linter.unusedSimpArgs false
set_option linter.unusedVariables false
def ok_schema_Field (x : schema_Field) : Prop := okS x.Name ∧ (inK .u8) x.Kind
def ok_schema_Type (x : schema_Type) : Prop := okS x.Name ∧ (okL ok_schema_Field) x.Fields
theorem d_law32_GateOnce_t9 {H : Type} (d : DataW H) (cs : List AV) (h : DAv prog 9 d cs) : ∃ x : List UInt8, cs = [.v (.string (bs x))] ∧ okS x := by
  obtain ⟨x, h, h1⟩ := dv_string (by kernel_rfl) h
  exact ⟨x, h, h1⟩
theorem d_law32_GateOnce_t5 {H : Type} (d : DataW H) (cs : List AV) (h : DAv prog 5 d cs) : ∃ x : Int, cs = [.v (.int .u8 x)] ∧ (inK .u8) x := by
  obtain ⟨x, h, h1, h2⟩ := dv_int (k := .u8) (by kernel_rfl) h
  exact ⟨x, h, h1, h2⟩
theorem d_law32_GateOnce_t72 {H : Type} (d : DataW H) (cs : List AV) (h : DAv prog 72 d cs) : ∃ x : schema_Field, cs = [.v (.string (bs x.Name)), .v (.int .u8 x.Kind)] ∧ ok_schema_Field x := by
  obtain ⟨_, h⟩ := dv_struct (ts := [9, 5]) (by kernel_rfl) h
  obtain ⟨_, _, _, _, rfl, h0, h⟩ := dvs_cons h
  obtain ⟨_, _, _, _, rfl, h1, h⟩ := dvs_cons h
  obtain rfl := dvs_nil h
  obtain ⟨x0, rfl, k0⟩ := d_law32_GateOnce_t9 _ _ h0
  obtain ⟨x1, rfl, k1⟩ := d_law32_GateOnce_t5 _ _ h1
  exact ⟨⟨x0, x1⟩, rfl, ⟨k0, k1⟩⟩
theorem d_law32_GateOnce_t68 {H : Type} (d : DataW H) (cs : List AV) (h : DAv prog 68 d cs) : ∃ x : List schema_Field, cs = [.sl 2 (List.map eA0 x)] ∧ (okL ok_schema_Field) x := by
  obtain ⟨x, h, h1, h2⟩ := dv_slice (e := 72) (k := 2) eA0 ok_schema_Field (by kernel_rfl) (by kernel_rfl) (fun d cs h => by obtain ⟨x, h1, h2⟩ := d_law32_GateOnce_t72 d cs h; subst h1; exact ⟨x, mkE_agg (by kernel_rfl), h2⟩) h
  exact ⟨x, h, h1, h2⟩
theorem d_law32_GateOnce_t70 {H : Type} (d : DataW H) (cs : List AV) (h : DAv prog 70 d cs) : ∃ x : schema_Type, cs = [.v (.string (bs x.Name)), .sl 2 (List.map eA0 x.Fields)] ∧ ok_schema_Type x := by
  obtain ⟨_, h⟩ := dv_struct (ts := [9, 68]) (by kernel_rfl) h
  obtain ⟨_, _, _, _, rfl, h0, h⟩ := dvs_cons h
  obtain ⟨_, _, _, _, rfl, h1, h⟩ := dvs_cons h
  obtain rfl := dvs_nil h
  obtain ⟨x0, rfl, k0⟩ := d_law32_GateOnce_t9 _ _ h0
  obtain ⟨x1, rfl, k1⟩ := d_law32_GateOnce_t68 _ _ h1
  exact ⟨⟨x0, x1⟩, rfl, ⟨k0, k1⟩⟩
theorem d_law32_GateOnce_t22 {H : Type} (d : DataW H) (cs : List AV) (h : DAv prog 22 d cs) : ∃ x : List schema_Type, cs = [.sl 2 (List.map eA1 x)] ∧ (okL ok_schema_Type) x := by
  obtain ⟨x, h, h1, h2⟩ := dv_slice (e := 70) (k := 2) eA1 ok_schema_Type (by kernel_rfl) (by kernel_rfl) (fun d cs h => by obtain ⟨x, h1, h2⟩ := d_law32_GateOnce_t70 d cs h; subst h1; exact ⟨x, mkE_agg (by kernel_rfl), h2⟩) h
  exact ⟨x, h, h1, h2⟩
theorem d_law32_GateOnce_t3 {H : Type} (d : DataW H) (cs : List AV) (h : DAv prog 3 d cs) : ∃ x : Int, cs = [.v (.int .i64 x)] ∧ (inK .i64) x := by
  obtain ⟨x, h, h1, h2⟩ := dv_int (k := .i64) (by kernel_rfl) h
  exact ⟨x, h, h1, h2⟩
def ok_value_Value (x : value_Value) : Prop := (inK .u8) x.Kind ∧ (inK .i64) x.N ∧ (inK .u64) x.Bits ∧ okS x.Text
def ok_event_Event (x : event_Event) : Prop := (inK .i64) x.Time ∧ (inK .i64) x.Source ∧ (inK .i64) x.Seq ∧ okS x.Type_ ∧ (okL ok_value_Value) x.Vals
def ok_law32_Op (x : law32_Op) : Prop := (inK .u8) x.Kind ∧ (inK .i64) x.S ∧ (inK .i64) x.A ∧ ok_event_Event x.E
theorem d_law32_GateOnce_t87 {H : Type} (d : DataW H) (cs : List AV) (h : DAv prog 87 d cs) : ∃ x : Int, cs = [.v (.int .u64 x)] ∧ (inK .u64) x := by
  obtain ⟨x, h, h1, h2⟩ := dv_int (k := .u64) (by kernel_rfl) h
  exact ⟨x, h, h1, h2⟩
theorem d_law32_GateOnce_t89 {H : Type} (d : DataW H) (cs : List AV) (h : DAv prog 89 d cs) : ∃ x : value_Value, cs = [.v (.int .u8 x.Kind), .v (.int .i64 x.N), .v (.int .u64 x.Bits), .v (.string (bs x.Text))] ∧ ok_value_Value x := by
  obtain ⟨_, h⟩ := dv_struct (ts := [5, 3, 87, 9]) (by kernel_rfl) h
  obtain ⟨_, _, _, _, rfl, h0, h⟩ := dvs_cons h
  obtain ⟨_, _, _, _, rfl, h1, h⟩ := dvs_cons h
  obtain ⟨_, _, _, _, rfl, h2, h⟩ := dvs_cons h
  obtain ⟨_, _, _, _, rfl, h3, h⟩ := dvs_cons h
  obtain rfl := dvs_nil h
  obtain ⟨x0, rfl, k0⟩ := d_law32_GateOnce_t5 _ _ h0
  obtain ⟨x1, rfl, k1⟩ := d_law32_GateOnce_t3 _ _ h1
  obtain ⟨x2, rfl, k2⟩ := d_law32_GateOnce_t87 _ _ h2
  obtain ⟨x3, rfl, k3⟩ := d_law32_GateOnce_t9 _ _ h3
  exact ⟨⟨x0, x1, x2, x3⟩, rfl, ⟨k0, k1, k2, k3⟩⟩
theorem d_law32_GateOnce_t42 {H : Type} (d : DataW H) (cs : List AV) (h : DAv prog 42 d cs) : ∃ x : List value_Value, cs = [.sl 4 (List.map eA5 x)] ∧ (okL ok_value_Value) x := by
  obtain ⟨x, h, h1, h2⟩ := dv_slice (e := 89) (k := 4) eA5 ok_value_Value (by kernel_rfl) (by kernel_rfl) (fun d cs h => by obtain ⟨x, h1, h2⟩ := d_law32_GateOnce_t89 d cs h; subst h1; exact ⟨x, mkE_agg (by kernel_rfl), h2⟩) h
  exact ⟨x, h, h1, h2⟩
theorem d_law32_GateOnce_t44 {H : Type} (d : DataW H) (cs : List AV) (h : DAv prog 44 d cs) : ∃ x : event_Event, cs = [.v (.int .i64 x.Time), .v (.int .i64 x.Source), .v (.int .i64 x.Seq), .v (.string (bs x.Type_)), .sl 4 (List.map eA5 x.Vals)] ∧ ok_event_Event x := by
  obtain ⟨_, h⟩ := dv_struct (ts := [3, 3, 3, 9, 42]) (by kernel_rfl) h
  obtain ⟨_, _, _, _, rfl, h0, h⟩ := dvs_cons h
  obtain ⟨_, _, _, _, rfl, h1, h⟩ := dvs_cons h
  obtain ⟨_, _, _, _, rfl, h2, h⟩ := dvs_cons h
  obtain ⟨_, _, _, _, rfl, h3, h⟩ := dvs_cons h
  obtain ⟨_, _, _, _, rfl, h4, h⟩ := dvs_cons h
  obtain rfl := dvs_nil h
  obtain ⟨x0, rfl, k0⟩ := d_law32_GateOnce_t3 _ _ h0
  obtain ⟨x1, rfl, k1⟩ := d_law32_GateOnce_t3 _ _ h1
  obtain ⟨x2, rfl, k2⟩ := d_law32_GateOnce_t3 _ _ h2
  obtain ⟨x3, rfl, k3⟩ := d_law32_GateOnce_t9 _ _ h3
  obtain ⟨x4, rfl, k4⟩ := d_law32_GateOnce_t42 _ _ h4
  exact ⟨⟨x0, x1, x2, x3, x4⟩, rfl, ⟨k0, k1, k2, k3, k4⟩⟩
theorem d_law32_GateOnce_t46 {H : Type} (d : DataW H) (cs : List AV) (h : DAv prog 46 d cs) : ∃ x : law32_Op, cs = [.v (.int .u8 x.Kind), .v (.int .i64 x.S), .v (.int .i64 x.A), .v (.int .i64 x.E.Time), .v (.int .i64 x.E.Source), .v (.int .i64 x.E.Seq), .v (.string (bs x.E.Type_)), .sl 4 (List.map eA5 x.E.Vals)] ∧ ok_law32_Op x := by
  obtain ⟨_, h⟩ := dv_struct (ts := [5, 3, 3, 44]) (by kernel_rfl) h
  obtain ⟨_, _, _, _, rfl, h0, h⟩ := dvs_cons h
  obtain ⟨_, _, _, _, rfl, h1, h⟩ := dvs_cons h
  obtain ⟨_, _, _, _, rfl, h2, h⟩ := dvs_cons h
  obtain ⟨_, _, _, _, rfl, h3, h⟩ := dvs_cons h
  obtain rfl := dvs_nil h
  obtain ⟨x0, rfl, k0⟩ := d_law32_GateOnce_t5 _ _ h0
  obtain ⟨x1, rfl, k1⟩ := d_law32_GateOnce_t3 _ _ h1
  obtain ⟨x2, rfl, k2⟩ := d_law32_GateOnce_t3 _ _ h2
  obtain ⟨x3, rfl, k3⟩ := d_law32_GateOnce_t44 _ _ h3
  exact ⟨⟨x0, x1, x2, x3⟩, rfl, ⟨k0, k1, k2, k3⟩⟩
theorem d_law32_GateOnce_t23 {H : Type} (d : DataW H) (cs : List AV) (h : DAv prog 23 d cs) : ∃ x : List law32_Op, cs = [.sl 8 (List.map eA8 x)] ∧ (okL ok_law32_Op) x := by
  obtain ⟨x, h, h1, h2⟩ := dv_slice (e := 46) (k := 8) eA8 ok_law32_Op (by kernel_rfl) (by kernel_rfl) (fun d cs h => by obtain ⟨x, h1, h2⟩ := d_law32_GateOnce_t46 d cs h; subst h1; exact ⟨x, mkE_agg (by kernel_rfl), h2⟩) h
  exact ⟨x, h, h1, h2⟩
theorem d_law32_GateOnce {H : Type} (ds : List (DataW H)) (xs : List AV) (h : DAvV prog [22, 3, 23] ds xs) :
    ∃ (types : List schema_Type) (sources : Int) (l : List law32_Op), xs = [.sl 2 (List.map eA1 types), .v (.int .i64 sources), .sl 8 (List.map eA8 l)] ∧ (okL ok_schema_Type) types ∧ (inK .i64) sources ∧ (okL ok_law32_Op) l := by
  obtain ⟨_, _, _, _, rfl, rfl, h0, h⟩ := dvv_cons h
  obtain ⟨_, _, _, _, rfl, rfl, h1, h⟩ := dvv_cons h
  obtain ⟨_, _, _, _, rfl, rfl, h2, h⟩ := dvv_cons h
  obtain ⟨rfl, rfl⟩ := dvv_nil h
  obtain ⟨x0, rfl, k0⟩ := d_law32_GateOnce_t22 _ _ h0
  obtain ⟨x1, rfl, k1⟩ := d_law32_GateOnce_t3 _ _ h1
  obtain ⟨x2, rfl, k2⟩ := d_law32_GateOnce_t23 _ _ h2
  exact ⟨x0, x1, x2, by rw [mkE_one (by kernel_rfl), mkE_one (by kernel_rfl), mkE_one (by kernel_rfl)], k0, k1, k2⟩
end Go.Proofs.YtfblfapkpieckaaDoor.W
namespace Go.Proofs.YtfblfapkpieckaaDoor.W
open Go
set_option linter.unusedSimpArgs false
set_option linter.unusedVariables false

def small (l : List schema_Type) : Prop := l.length ≤ 12 ∧ ∀ t ∈ l, t.Name.length ≤ 40 ∧ t.Fields.length ≤ 12 ∧ ∀ f ∈ t.Fields, f.Name.length ≤ 40
theorem w_law06_Over (l : List schema_Type) : W (fun N => s_law06_Over N l) fun r => ¬ 0 < r → small l := by
  simp only [s_law06_Over, W.cond, W.ret, ltB_iff, ltB_not]
  refine ⟨by omega, fun hl => ?_⟩
  refine wf1 (l := l) (fun pre => ∀ t ∈ pre, t.Name.length ≤ 40 ∧ t.Fields.length ≤ 12 ∧ ∀ f ∈ t.Fields, f.Name.length ≤ 40) [] rfl rfl (by omega) (by simp) ?_ ?_
  · intro F pre t rest hl h1 h2 h3 hp hn
    simp only [s_law06_Over_1, h1, h2, W.some, W.cond, W.ret, ltB_iff, ltB_not]
    refine ⟨fun _ => ⟨by omega, fun hn1 => ⟨by omega, fun hn2 => ?_⟩⟩, by simp⟩
    refine wf1 (l := t.Fields) (fun pre => ∀ f ∈ pre, f.Name.length ≤ 40) [] rfl rfl (by omega) (by simp) ?_ ?_
    · intro F' pre' f rest' hl' k1 k2 k3 hp' hn'
      simp only [s_law06_Over_2, h1, h2, k1, k2, k3, W.some, W.cond, W.ret, gd_true, ltB_iff, ltB_not]
      refine ⟨fun _ => ⟨by omega, fun hf => hn' ?_⟩, by simp⟩
      simp only [List.mem_append, List.mem_singleton]
      rintro f (h | rfl)
      · exact hp' f h
      · omega
    · intro F' k1 hp'
      simp only [s_law06_Over_2, h1, h2, h3, k1, W.some, W.cond, W.ret, gd_true]
      refine ⟨by simp, fun _ => (hn ?_).lift⟩
      simp only [List.mem_append, List.mem_singleton]
      rintro t (h | rfl)
      · exact hp t h
      · exact ⟨by omega, by omega, hp'⟩
  · intro F h1 hp
    simp only [s_law06_Over_1, h1, W.some, W.cond, W.ret]
    exact ⟨by simp, fun _ _ => ⟨by omega, hp⟩⟩

theorem W.tt {ι : Type} [Lim ι] {α : Type} {f : ι → Option α} {Q : α → Prop} (h : W f Q) : W f fun _ => True := h.mp fun _ _ => trivial

theorem w_law06_Own (l : List schema_Type) (h : small l) : W (fun N => s_law06_Own N l) fun r => r = l := by
  have h12 := h.1
  refine wf2a (l := l) (fun pre ys => ys = pre) [] rfl rfl (by omega) rfl ?_ ?_
  · rintro F pre t rest ys hl h1 h2 h3 rfl hn
    have ht := (h.2 t (by rw [hl]; simp)).2.1
    have hp : ys.length ≤ 12 := by rw [hl, List.length_append] at h12; omega
    simp only [s_law06_Own_1, h1, h2, W.some, cond_true]
    refine wf3a (l := t.Fields) (fun pre' a b => a = ys ∧ b = pre') [] rfl rfl (by omega) ⟨rfl, rfl⟩ ?_ ?_
    · rintro F' pre' f rest' a b hl' k1 k2 k3 ⟨rfl, rfl⟩ hn'
      have : b.length ≤ 12 := by rw [hl', List.length_append] at ht; omega
      simp only [s_law06_Own_2, h1, h2, k1, k2, k3, W.some, cond_true, W.gd, Nat.ble_eq, true_and]
      exact ⟨by omega, hn' _ _ ⟨rfl, rfl⟩⟩
    · rintro F' a b k1 ⟨rfl, rfl⟩
      simp only [s_law06_Own_2, h1, h2, h3, k1, W.some, cond_false, W.gd, Nat.ble_eq, true_and]
      exact ⟨by omega, (hn _ rfl).lift⟩
  · rintro F ys h1 rfl
    simp only [s_law06_Own_1, h1, cond_false, W.ret]

theorem w_schema_letter (c : Int) : W (fun N => s_schema_letter N c) fun _ => True := by
  simp only [s_schema_letter, W.cond, W.ret, implies_true, and_self]
theorem w_schema_tail (c : Int) : W (fun N => s_schema_tail N c) fun _ => True := by
  simp only [s_schema_tail]
  refine W.call (w_schema_letter c) fun b _ => ?_
  simp only [W.cond, W.ret, implies_true, and_self]
theorem w_schema_Reserved (s : List UInt8) : W (fun N => s_schema_Reserved N s) fun _ => True := by
  simp only [s_schema_Reserved, W.cond, W.ret, implies_true, and_self]
theorem w_schema_Name (s : List UInt8) : W (fun N => s_schema_Name N s) fun _ => True := by
  cases s with
  | nil => simp only [s_schema_Name, W.cond, W.ret, implies_true, and_self, true_and, BEq.rfl, Bool.true_eq_false, false_implies]
  | cons c r =>
    simp only [s_schema_Name, W.cond, W.ret, implies_true, and_self, true_and, ltB_iff, ltB_not]
    intro _ hb
    simp only [show ix (c :: r) 0 = some c from rfl, W.some]
    refine W.call (w_schema_letter _) fun b _ => ?_
    simp only [W.cond, W.ret, implies_true, and_self, true_and]
    intro _
    refine W.call (w_schema_Reserved _) fun b _ => ?_
    simp only [W.cond, W.ret, implies_true, and_self, true_and]
    intro _
    refine wf1 (l := c :: r) (fun _ => True) [c] rfl rfl (by omega) trivial ?_ ?_
    · rintro F pre c' rest hl h1 h2 h3 _ hn
      simp only [s_schema_Name_1, h1, h2, W.some, cond_true]
      refine W.call (w_schema_tail _) fun b _ => ?_
      simp only [W.cond, W.ret, implies_true, and_self, true_and, W.gd, h3, hn trivial]
    · intro F h1 _
      simp only [s_schema_Name_1, h1, cond_false, W.ret]
theorem w_schema_Field (t : schema_Type) (name : List UInt8) (h : t.Fields.length ≤ 12) : W (fun N => s_schema_Type_Field N t name) fun _ => True := by
  refine wf1 (l := t.Fields) (fun _ => True) [] rfl rfl (by omega) trivial ?_ ?_
  · rintro F pre c' rest hl h1 h2 h3 _ hn
    simp only [s_schema_Type_Field_1, h1, h2, h3, W.some, W.cond, W.gd, W.ret, implies_true, and_self, true_and, hn trivial]
  · intro F h1 _
    simp only [s_schema_Type_Field_1, h1, cond_false, W.ret]
theorem w_value_Word (k : Int) : W (fun N => s_value_Word N k) fun _ => True := by
  simp only [s_value_Word, W.cond, W.ret, implies_true, and_self]
theorem w_schema_check (t : schema_Type) (h : t.Fields.length ≤ 12) : W (fun N => s_schema_Type_check N t) fun _ => True := by
  simp only [s_schema_Type_check]
  refine W.call (w_schema_Name _) fun b _ => ?_
  simp only [W.cond, W.ret, implies_true, and_self, true_and]
  intro _ _
  refine wf1 (l := t.Fields) (fun _ => True) [] rfl rfl (by omega) trivial ?_ ?_
  · rintro F pre c' rest hl h1 h2 h3 _ hn
    simp only [s_schema_Type_check_1, h1, h2, W.some, cond_true]
    refine W.call (w_schema_Field _ _ h) fun b _ => ?_
    refine W.call (w_schema_Name _) fun b _ => ?_
    simp only [W.cond, W.ret, implies_true, and_self, true_and]
    intro _
    refine W.call (w_value_Word _) fun b _ => ?_
    simp only [W.cond, W.ret, implies_true, and_self, true_and, W.gd, h3, hn trivial]
  · intro F h1 _
    simp only [s_schema_Type_check_1, h1, cond_false, W.ret]
theorem w_schema_Find (l : List schema_Type) (name : List UInt8) (h : small l) : W (fun N => s_schema_Find N l name) fun r => r.1.Fields.length ≤ 12 := by
  have h12 := h.1
  refine wf1 (l := l) (fun _ => True) [] rfl rfl (by omega) trivial ?_ ?_
  · rintro F pre t rest hl h1 h2 h3 _ hn
    have ht := (h.2 t (by rw [hl]; simp)).2.1
    simp only [s_schema_Find_1, h1, h2, W.some, W.cond, W.ret, implies_true, and_self, true_and, W.gd, h3, hn trivial, Bool.true_eq_false, false_implies, and_true, forall_const]
    intro _
    rw [W.clone (by omega)]
    exact W.ret.2 ht
  · intro F h1 _
    simp only [s_schema_Find_1, h1, cond_false, W.ret, List.length_nil]
    omega
theorem small_take {l : List schema_Type} (h : small l) (n : Nat) : small (l.take n) := ⟨by have := h.1; simp; omega, fun t ht => h.2 t (List.mem_of_mem_take ht)⟩
theorem w_schema_Check (l : List schema_Type) (h : small l) : W (fun N => s_schema_Check N l) fun _ => True := by
  have h12 := h.1
  simp only [s_schema_Check, W.cond, W.ret, implies_true, true_and]
  intro _
  refine wf1 (l := l) (fun _ => True) [] rfl rfl (by omega) trivial ?_ ?_
  · rintro F pre t rest hl h1 h2 h3 _ hn
    have ht := (h.2 t (by rw [hl]; simp)).2.1
    simp only [s_schema_Check_1, h1, h2, W.some, cond_true]
    refine W.call (w_schema_check t ht) fun b _ => ?_
    simp only [W.cond, W.ret, W.gd, implies_true, true_and, leB_iff]
    have := ltB_iff.1 h1
    refine fun _ => ⟨by omega, by omega, ?_⟩
    refine W.call (w_schema_Find _ _ (small_take h _)) fun b _ => ?_
    simp only [W.cond, W.ret, W.gd, implies_true, true_and, h3, hn trivial]
  · intro F h1 _
    simp only [s_schema_Check_1, h1, cond_false, W.ret]

theorem w_value_Check (v : value_Value) : W (fun N => s_value_Check N v) fun _ => True := by
  simp only [s_value_Check]
  have hc : W (fun N => s_value_core N v) fun _ => True := by simp only [s_value_core, W.cond, W.ret, implies_true, and_self]
  refine W.call hc fun b _ => ?_
  simp only [W.sum, W.cond, W.ret, s_value_number_whole, s_value_flag_whole, s_value_double_whole, s_value_words_whole, W.some, implies_true, true_and, and_true]
  intro b _ b _ b _
  have hr : W (fun N => s_real_Clean N b) fun _ => True := by simp only [s_real_Clean, s_real_of, W.some, W.cond, W.ret, implies_true, and_self]
  refine W.call hr fun b _ => ?_
  simp only [W.cond, W.ret, W.some, implies_true, and_self]
theorem w_schema_Fits (t : schema_Type) (vals : List value_Value) (h : t.Fields.length ≤ 12) : W (fun N => s_schema_Fits N t vals) fun _ => True := by
  simp only [s_schema_Fits, W.cond, W.ret, implies_true, true_and]
  intro he
  have he : (vals.length : Int) = t.Fields.length := by simpa using he
  refine wf1 (l := vals) (fun _ => True) [] rfl rfl (by omega) trivial ?_ ?_
  · rintro F pre v rest hl h1 h2 h3 _ hn
    simp only [s_schema_Fits_1, h1, h2, W.some, cond_true]
    refine W.call (w_value_Check v) fun b _ => ?_
    have := ltB_iff.1 h1
    simp only [W.cond, W.ret, implies_true, true_and]
    refine fun _ => W.ix (by omega) (by omega) fun e _ _ => ?_
    simp only [W.cond, W.ret, W.gd, implies_true, true_and, h3, hn trivial]
  · intro F h1 _
    simp only [s_schema_Fits_1, h1, cond_false, W.ret]
theorem w_event_Check (types : List schema_Type) (e : event_Event) (h : small types) : W (fun N => s_event_Check N types e) fun r => r = 0 → 0 ≤ e.Time ∧ e.Time ≤ 1099511627776 := by
  simp only [s_event_Check]
  refine W.call (w_schema_Check types h) fun b _ => ?_
  simp only [W.cond, W.ret, s_event_Event_ID, W.some]
  refine ⟨by simp, fun _ => ?_⟩
  have hm : W (fun N => s_event_ID_may N ⟨e.Time, e.Source, e.Seq⟩) fun r => r = true → 0 ≤ e.Time ∧ e.Time ≤ 1099511627776 := by
    simp only [s_event_ID_may, W.cond, W.ret, leB_iff, leB_not]
    simp
    intros; omega
  refine W.call hm fun b hb => ?_
  simp only [W.cond, W.ret]
  refine ⟨by simp, fun hb' => ?_⟩
  refine W.call (w_schema_Find _ _ h) fun r hr => ?_
  simp only [W.cond, W.ret]
  refine ⟨by simp, fun _ => ?_⟩
  refine W.call (w_schema_Fits _ _ hr) fun r _ => ?_
  exact W.ret.2 fun _ => hb (by simpa using hb')

def evOk (e : event_Event) : Prop := e.Vals.length ≤ 12
theorem w_law07_Over (e : event_Event) (hv : ∀ v ∈ e.Vals, v.Text.length ≤ 9223372036854775807) : W (fun N => s_law07_Over N [e] 1) fun r => ¬ 0 < r → evOk e := by
  simp only [s_law07_Over, W.cond, W.ret, ltB_iff, ltB_not]
  refine ⟨by simp, fun _ => ?_⟩
  refine wf1 (l := [e]) (fun pre => ∀ e ∈ pre, evOk e) [] rfl rfl (by simp) (by simp) ?_ ?_
  · rintro F pre e' rest hl h1 h2 h3 hp hn
    have he' : e' = e := by
      have : e' ∈ [e] := by rw [hl]; simp
      simpa using this
    subst he'
    simp only [s_law07_Over_1, h1, h2, W.some, cond_true, W.cond, W.ret, ltB_iff, ltB_not]
    refine ⟨by omega, fun _ => ⟨by omega, fun hl => ?_⟩⟩
    refine wf1 (l := e'.Vals) (fun _ => True) [] rfl rfl (by omega) trivial ?_ ?_
    · intro F' pre' v rest' hl' k1 k2 k3 _ hn'
      have hv := hv v (by rw [hl']; simp)
      simp only [s_law07_Over_2, h1, h2, k1, k2, W.some, cond_true]
      have hs : W (fun N => s_law04_Small N v) fun _ => True := by simp only [s_law04_Small, W.gd, W.ret, i64b_eq, and_true]; omega
      refine W.call hs fun b _ => ?_
      simp only [W.cond, W.ret, W.gd, k3, hn' trivial, ltB_iff, true_and, implies_true, and_true]
      omega
    · intro F' k1 _
      simp only [s_law07_Over_2, h1, h2, h3, k1, W.some, cond_false, W.gd, true_and]
      refine (hn ?_).lift
      simp only [List.mem_append, List.mem_singleton]
      rintro t (h | rfl)
      · exact hp t h
      · show t.Vals.length ≤ 12; omega
  · intro F h1 hp
    simp only [s_law07_Over_1, h1, cond_false, W.ret]
    exact fun _ => hp e (by simp)
theorem w_law07_Own (e : event_Event) (h : evOk e) : W (fun N => s_law07_Own N e) fun r => r = e := by
  have hv : W (fun N => s_law06_Vals N e.Vals) fun r => r = e.Vals := by
    have h12 : e.Vals.length ≤ 12 := h
    refine wf2a (l := e.Vals) (fun pre ys => ys = pre) [] rfl rfl (by omega) rfl ?_ ?_
    · rintro F pre t rest ys hl h1 h2 h3 rfl hn
      have : ys.length ≤ 12 := by rw [hl, List.length_append] at h12; omega
      simp only [s_law06_Vals_1, h1, h2, h3, W.some, cond_true, W.gd, Nat.ble_eq, true_and]
      exact ⟨by omega, hn _ rfl⟩
    · rintro F ys h1 rfl
      simp only [s_law06_Vals_1, h1, cond_false, W.ret]
  simp only [s_law07_Own]
  refine W.call hv fun b hb => ?_
  subst hb
  exact W.ret.2 rfl

end Go.Proofs.YtfblfapkpieckaaDoor.W
namespace Go.Proofs.YtfblfapkpieckaaDoor.W
open Go
set_option linter.unusedSimpArgs false
set_option linter.unusedVariables false

def mn (l : List gate_Source) (a : Int) : Int := l.foldl (fun a x => if x.Closed = true then a else min a x.Front) a
def least (l : List gate_Source) : Int := mn l 1099511627777
theorem le_mn (m : Int) : ∀ (l : List gate_Source) (a : Int), m ≤ mn l a ↔ m ≤ a ∧ ∀ x ∈ l, x.Closed = false → m ≤ x.Front
  | [], a => by simp [mn]
  | x :: l, a => by
    have := le_mn m l (if x.Closed = true then a else min a x.Front)
    show m ≤ mn l _ ↔ _
    rw [this]
    by_cases h : x.Closed = true
    · simp [h]
    · have h := eq_false_of_ne_true h
      simp only [h, Bool.false_eq_true, if_false, List.mem_cons, forall_eq_or_imp, true_implies, Int.le_min]
      exact and_assoc
theorem le_least (m : Int) (l : List gate_Source) : m ≤ least l ↔ m ≤ 1099511627777 ∧ ∀ x ∈ l, x.Closed = false → m ≤ x.Front := le_mn m l _
theorem least_set {l : List gate_Source} {n : Nat} {x y : gate_Source} (hx : l[n]? = some x) (hy : y.Closed = false → x.Closed = false ∧ x.Front ≤ y.Front) : least l ≤ least (l.set n y) := by
  have h := (le_least (least l) l).1 (Int.le_refl _)
  refine (le_least _ _).2 ⟨h.1, fun z hz hc => ?_⟩
  rcases List.mem_or_eq_of_mem_set hz with hz | rfl
  · exact h.2 z hz hc
  · have := h.2 x (List.mem_of_getElem? hx) (hy hc).1
    have := (hy hc).2
    omega

theorem w_Least (g : gate_Gate) (h : g.L.length ≤ 16) : W (fun N => s_gate_Gate_Least N g) fun r => r = least g.L := by
  simp only [s_gate_Gate_Least]
  refine wf2z (l := g.L) (fun pre a => mn pre 1099511627777 = a) [] rfl rfl (by omega) rfl ?_ ?_
  · rintro F pre x rest a hl h1 h2 h3 rfl hn
    simp only [s_gate_Gate_Least_1, h1, h2, h3, W.some, cond_true, W.cond, W.gd, true_and]
    refine ⟨fun hc => hn _ ?_, fun hc => hn _ ?_⟩
    · simp only [mn, List.foldl_append, List.foldl_cons, List.foldl_nil]
      simp at hc; simp [hc]
    · simp only [mn, List.foldl_append, List.foldl_cons, List.foldl_nil]
      simp at hc; simp [hc]
  · rintro F a h1 rfl
    simp only [s_gate_Gate_Least_1, h1, cond_false, W.ret]; rfl

theorem w_Equal (a : List schema_Field) (h : a.length ≤ 12) : W (fun N => s_slices_Equal_schema_Field N a a) fun r => r = true := by
  simp only [s_slices_Equal_schema_Field, W.cond, W.ret]
  refine ⟨by simp, fun _ => ?_⟩
  refine wf1 (l := a) (fun _ => True) [] rfl rfl (by omega) trivial ?_ ?_
  · intro F pre x rest hl h1 h2 h3 _ hn
    simp only [s_slices_Equal_schema_Field_1, h1, h2, h3, W.some, cond_true, W.cond, W.gd, true_and, W.ret, hn trivial, BEq.rfl, Bool.and_self, Bool.not_true, Bool.false_eq_true, false_implies, implies_true]
  · intro F h1 _
    simp only [s_slices_Equal_schema_Field_1, h1, cond_false, W.ret]
theorem w_schema_Same (a : List schema_Type) (h : small a) : W (fun N => s_schema_Same N a a) fun r => r = true := by
  have h12 := h.1
  have : W (fun N => s_slices_EqualFunc_schema_Type_v029 N a a) fun r => r = true := by
    simp only [s_slices_EqualFunc_schema_Type_v029, W.cond, W.ret]
    refine ⟨by simp, fun _ => ?_⟩
    refine wf1 (l := a) (fun _ => True) [] rfl rfl (by omega) trivial ?_ ?_
    · intro F pre x rest hl h1 h2 h3 _ hn
      have hx := (h.2 x (by rw [hl]; simp)).2.1
      have hl : W (fun N => s_schema_Same_L1 N x x) fun r => r = true := by
        simp only [s_schema_Same_L1, BEq.rfl, cond_true]
        refine W.call (w_Equal _ hx) fun b hb => ?_
        exact W.ret.2 hb
      simp only [s_slices_EqualFunc_schema_Type_v029_1, h1, h2, W.some, cond_true]
      refine W.call hl fun b hb => ?_
      subst hb
      simp only [Bool.not_true, cond_false, W.gd, h3, hn trivial, true_and]
    · intro F h1 _
      simp only [s_slices_EqualFunc_schema_Type_v029_1, h1, cond_false, W.ret]
  simp only [s_schema_Same]
  refine W.call this fun b hb => ?_
  exact W.ret.2 hb
def GI (g : gate_Gate) : Prop := small g.Types ∧ g.L.length ≤ 16
theorem w_gate_Same (g : gate_Gate) (h : GI g) : W (fun N => s_gate_Same N g g) fun r => r = true := by
  have h16 := h.2
  simp only [s_gate_Same, W.cond, W.ret]
  refine ⟨by simp, fun _ => ?_⟩
  refine W.call (w_schema_Same _ h.1) fun b hb => ?_
  subst hb
  simp only [Bool.not_true, cond_false]
  refine wf1 (l := g.L) (fun _ => True) [] rfl rfl (by omega) trivial ?_ ?_
  · intro F pre x rest hl h1 h2 h3 _ hn
    simp only [s_gate_Same_1, h1, h2, h3, W.some, cond_true, W.cond, W.gd, true_and, W.ret, hn trivial, BEq.rfl, Bool.and_self, Bool.not_true, Bool.false_eq_true, false_implies, implies_true]
  · intro F h1 _
    simp only [s_gate_Same_1, h1, cond_false, W.ret]

theorem w_open (g : gate_Gate) (s : Int) : W (fun N => s_gate_Gate_open N g s) fun r => r.2 = 0 → 0 ≤ s ∧ s < g.L.length ∧ ix g.L s = some r.1 ∧ g.L[s.toNat]? = some r.1 ∧ r.1.Closed = false := by
  simp only [s_gate_Gate_open, W.cond, W.ret, ltB_iff, ltB_not, leB_iff, leB_not]
  refine ⟨by simp, fun h0 => ⟨by simp, fun h1 => ?_⟩⟩
  refine W.ix h0 h1 fun x hx hx' => ?_
  simp only [W.cond, W.ret]
  refine ⟨by simp, fun hc => ?_⟩
  simp only [hx, W.some, W.ret]
  exact fun _ => ⟨h0, h1, trivial, hx', hc⟩

/-- What a step leaves. -/
def Done (g : gate_Gate) (s : Int) (c : gate_Source → gate_Source → Prop) (r : gate_Gate × Int) : Prop :=
  (r.2 ≠ 0 ∧ r.1 = g) ∨ (r.2 = 0 ∧ 0 ≤ s ∧ s < g.L.length ∧ ∃ x y, g.L[s.toNat]? = some x ∧ x.Closed = false ∧ c x y ∧ r.1 = ⟨g.Types, g.L.set s.toNat y⟩)
theorem w_Advance (g : gate_Gate) (s t : Int) (h : GI g) : W (fun N => s_gate_Gate_Advance N g s t) (Done g s fun x y => x.Front ≤ y.Front ∧ y.Last = x.Last) := by
  have h16 := h.2
  simp only [s_gate_Gate_Advance]
  refine W.call (w_open g s) fun r hr => ?_
  simp only [W.cond, W.ret, ltB_iff, ltB_not]
  refine ⟨fun h => .inl ⟨by simpa using h, rfl⟩, fun h => ?_⟩
  obtain ⟨h0, h1, h2, h3, h4⟩ := hr (by simpa using h)
  refine ⟨fun _ => .inl ⟨by simp, rfl⟩, fun h5 => ⟨fun _ => .inl ⟨by simp, rfl⟩, fun _ => ?_⟩⟩
  have ht : W (fun N => s_gate_Gate_turn_v637 N g s t) fun q => q.1 = ⟨g.Types, g.L.set s.toNat ⟨t, r.1.Last, r.1.Closed⟩⟩ := by
    simp only [s_gate_Gate_turn_v637]
    rw [W.clone (by omega)]
    simp only [s_gate_Gate_Advance_L1_v469, h2, Option.bind_some, W.ret]
  refine W.call ht fun q hq => ?_
  exact W.ret.2 (.inr ⟨rfl, h0, h1, r.1, ⟨t, r.1.Last, r.1.Closed⟩, h3, h4, ⟨h5, rfl⟩, hq⟩)
theorem w_Close (g : gate_Gate) (s : Int) (h : GI g) : W (fun N => s_gate_Gate_Close N g s) (Done g s fun x y => y.Closed = true ∧ y.Last = x.Last) := by
  have h16 := h.2
  simp only [s_gate_Gate_Close]
  refine W.call (w_open g s) fun r hr => ?_
  simp only [W.cond, W.ret, ltB_iff, ltB_not]
  refine ⟨fun h => .inl ⟨by simpa using h, rfl⟩, fun h => ?_⟩
  obtain ⟨h0, h1, h2, h3, h4⟩ := hr (by simpa using h)
  have ht : W (fun N => s_gate_Gate_turn_v071 N g s) fun q => q = ⟨g.Types, g.L.set s.toNat ⟨r.1.Front, r.1.Last, true⟩⟩ := by
    simp only [s_gate_Gate_turn_v071]
    rw [W.clone (by omega)]
    simp only [s_gate_Gate_Close_L1_v462, h2, Option.bind_some, W.ret]
  refine W.call ht fun q hq => ?_
  exact W.ret.2 (.inr ⟨rfl, h0, h1, r.1, ⟨r.1.Front, r.1.Last, true⟩, h3, h4, ⟨rfl, rfl⟩, by rw [hq]⟩)
theorem w_Why (g : gate_Gate) (e : event_Event) (h : GI g) : W (fun N => s_gate_Gate_Why N g e) fun r => r = 0 → e.Time ≤ 1099511627776 ∧ 0 ≤ e.Source ∧ e.Source < g.L.length ∧ ∃ x, ix g.L e.Source = some x ∧ g.L[e.Source.toNat]? = some x ∧ x.Closed = false ∧ x.Front ≤ e.Time ∧ x.Last < e.Seq := by
  simp only [s_gate_Gate_Why]
  refine W.call (w_event_Check _ e h.1) fun r hr => ?_
  simp only [W.cond, W.ret]
  refine ⟨fun h h' => absurd h' (by simpa using h), fun h => ?_⟩
  have hr := hr (by simpa using h)
  refine W.call (w_open g e.Source) fun r hr => ?_
  simp only [W.cond, W.ret, ltB_iff, ltB_not, leB_iff, leB_not]
  refine ⟨fun h h' => absurd h' (by simpa using h), fun h => ?_⟩
  obtain ⟨h0, h1, h2, h3, h4⟩ := hr (by simpa using h)
  refine ⟨by simp, fun h5 => ⟨by simp, fun h6 _ => ⟨by omega, h0, h1, r.1, h2, h3, h4, h5, h6⟩⟩⟩
theorem w_Accept (g : gate_Gate) (e : event_Event) (h : GI g) : W (fun N => s_gate_Gate_Accept N g e) (Done g e.Source fun x y => e.Time ≤ 1099511627776 ∧ x.Front ≤ e.Time ∧ x.Last < e.Seq ∧ y = ⟨x.Front, e.Seq, x.Closed⟩) := by
  have h16 := h.2
  simp only [s_gate_Gate_Accept]
  refine W.call (w_Why g e h) fun r hr => ?_
  simp only [W.cond, W.ret]
  refine ⟨fun h => .inl ⟨by simpa using h, rfl⟩, fun h => ?_⟩
  obtain ⟨hm, h0, h1, x, h2, h3, h4, h5, h6⟩ := hr (by simpa using h)
  have ht : W (fun N => s_gate_Gate_turn_v778 N g e.Source e.Time e.Source e.Seq e.Type_ e.Vals) fun q => q.1 = ⟨g.Types, g.L.set e.Source.toNat ⟨x.Front, e.Seq, x.Closed⟩⟩ := by
    simp only [s_gate_Gate_turn_v778]
    rw [W.clone (by omega)]
    simp only [s_gate_Gate_Accept_L1_v149, h2, Option.bind_some, W.ret]
  refine W.call ht fun q hq => ?_
  exact W.ret.2 (.inr ⟨rfl, h0, h1, x, ⟨x.Front, e.Seq, x.Closed⟩, h3, h4, ⟨hm, h5, h6, rfl⟩, hq⟩)

theorem w_New (types : List schema_Type) (n : Int) (h : small types) : W (fun N => s_gate_New N types n) fun r => (r.2 ≠ 0 ∧ r.1.L = []) ∨ (r.2 = 0 ∧ GI r.1) := by
  have h12 := h.1
  simp only [s_gate_New]
  refine W.call (w_schema_Check types h) fun b _ => ?_
  simp only [W.cond, W.ret, ltB_iff, ltB_not, leB_iff, W.gd]
  refine ⟨fun _ => .inl ⟨by simp, trivial⟩, fun _ => ⟨fun _ => .inl ⟨by simp, trivial⟩, fun h1 => ⟨fun _ => .inl ⟨by simp, trivial⟩, fun h2 => ?_⟩⟩⟩
  rw [W.clone (by omega)]
  simp only [W.gd, leB_iff]
  refine ⟨by omega, by omega, ?_⟩
  refine W.lp2 (P := fun (i : Int) (ys : List gate_Source) => 0 ≤ i ∧ i ≤ n.toNat ∧ ys.length = n.toNat) (m := fun (i : Int) _ => ((n.toNat : Int) - i).toNat) ⟨by omega, by omega, by simp⟩ ?_
  rintro F i ys ⟨h3, h4, h5⟩ hn
  simp only [s_gate_New_1, W.cond, W.ret, ltB_iff, ltB_not, List.length_replicate]
  refine ⟨fun h6 => ?_, fun _ => .inr ⟨trivial, h, by show ys.length ≤ 16; omega⟩⟩
  refine W.ix h3 (by omega) fun x hx _ => ?_
  simp only [hx, W.some, W.gd, i64b_eq]
  refine ⟨by omega, hn _ _ ⟨by omega, by omega, by simp [h5]⟩ (by omega)⟩

end Go.Proofs.YtfblfapkpieckaaDoor.W
namespace Go.Proofs.YtfblfapkpieckaaDoor.W
open Go
set_option linter.unusedSimpArgs false
set_option linter.unusedVariables false

theorem wid {ι : Type} [Lim ι] {α : Type} {f : ι → Option α} {Q : α → Prop} : W (fun i => (f i).bind fun a => some a) Q ↔ W f Q := by
  have : (fun i => (f i).bind fun a => some a) = f := by funext i; cases f i <;> rfl
  rw [this]

def opok (o : law32_Op) : Prop := ∀ v ∈ o.E.Vals, v.Text.length ≤ 9223372036854775807
/-- Each event that was accepted is behind its source's last one. -/
def Got (L : List gate_Source) (l : List event_ID) : Prop := ∀ d ∈ l, 0 ≤ d.Source ∧ ∃ x, L[d.Source.toNat]? = some x ∧ d.Seq ≤ x.Last
theorem got_set {L : List gate_Source} {l : List event_ID} {n : Nat} {x y : gate_Source} (h : Got L l) (hx : L[n]? = some x) (hy : x.Last ≤ y.Last) : Got (L.set n y) l := by
  intro d hd
  obtain ⟨h0, z, hz, hl⟩ := h d hd
  refine ⟨h0, ?_⟩
  by_cases he : n = d.Source.toNat
  · subst he
    obtain rfl : x = z := by rw [hx] at hz; exact Option.some.inj hz
    obtain ⟨hb, _⟩ := List.getElem?_eq_some_iff.1 hx
    exact ⟨y, by simp [List.getElem?_set, hb], by omega⟩
  · exact ⟨z, by simp [List.getElem?_set, he, hz], hl⟩
theorem gi_set {g : gate_Gate} (h : GI g) (n : Nat) (y : gate_Source) : GI ⟨g.Types, g.L.set n y⟩ := ⟨h.1, by simpa using h.2⟩

theorem law_GateOnce (awake : W (fun N => s_law32_awake N) fun r => r = true) (types : List schema_Type) (sources : Int) (l : List law32_Op) (hl : ∀ o ∈ l, opok o) :
    W (fun N => s_law32_GateOnce N types sources l) fun r => r = true := by
  have aw : ∀ {ι : Type} [Lim ι] (N : ι → Nat) [Tends N], W (fun i => (s_law32_awake (N i)).bind fun a => some a) fun r => r = true := fun N => wid.2 (awake.of N)
  simp only [s_law32_GateOnce]
  refine W.call (w_law06_Over types) fun b hb => ?_
  simp only [W.cond, W.ret, ltB_iff, ltB_not]
  refine ⟨fun _ => aw _, fun h => ⟨fun _ => aw _, fun h20 => ?_⟩⟩
  have hs := hb (by omega)
  refine W.call (w_law06_Own types hs) fun b hb => ?_
  subst hb
  refine W.call (w_New _ sources hs) fun r hr => ?_
  simp only [W.cond, W.ret]
  refine ⟨fun h => ?_, fun h => ?_⟩
  · have hr : r.1.L = [] := by
      rcases hr with h' | h'
      · exact h'.2
      · simp [h'.1] at h
    exact ⟨fun _ => aw _, by simp [hr]⟩
  · have hr : GI r.1 := by
      rcases hr with h' | h'
      · simp [h'.1] at h
      · exact h'.2
    refine wf4a (l := l) (fun pre y y2 ys => GI ⟨y, y2⟩ ∧ ys.length ≤ pre.length ∧ Got y2 ys) [] rfl rfl (by omega) ⟨hr, by simp, by simp [Got]⟩ ?_ ?_
    · rintro F pre o rest y y2 ys hl' h1 h2 h3 ⟨hg, hy, hgot⟩ hn
      have ho : o ∈ l := by rw [hl']; simp
      have h16 := hg.2
      -- what the tail needs, if a step left the same gate
      have hl20 : pre.length < 20 := by rw [hl'] at h20; simp at h20; omega
      simp only [s_law32_GateOnce_1, h1, h2, Option.bind_some, cond_true]
      refine W.call (w_law07_Over o.E (hl o ho)) fun b hb => ?_
      simp only [W.cond, ltB_iff, ltB_not]
      refine ⟨fun _ => aw _, fun hb' => ?_⟩
      have he := hb (by omega)
      refine W.call (w_law07_Own o.E he) fun b hb => ?_
      subst hb
      simp only [W.cond]
      refine ⟨fun hk => ?_, fun hk => ?_⟩
      · refine W.call (w_Accept _ _ hg) fun r hr => ?_
        rcases hr with ⟨hr1, hr2⟩ | ⟨hr1, h0, hlen, x, z, hx, hc, ⟨hm, hf, hq, hz⟩, hr2⟩
        · have e1 : (r.2 != 0) = true := by simpa using hr1
          have e2 : (r.2 == 0) = false := by simpa using hr1
          simp only [e1, e2, hr2, cond_true, cond_false, h3, gd_true]
          refine W.call (w_gate_Same _ hg) fun b hb => ?_
          subst hb
          simp only [Bool.not_true, cond_false]
          refine W.call (w_Least _ h16) fun b hb => ?_
          subst hb
          refine W.call (w_Least _ h16) fun b hb => ?_
          subst hb
          simp only [ltB_irr, cond_false]
          exact hn _ _ _ ⟨hg, by simp; omega, hgot⟩
        · have e1 : (r.2 != 0) = false := by simp [hr1]
          have e2 : (r.2 == 0) = true := by simp [hr1]
          have hle := least_set (y := z) hx (fun _ => ⟨hc, by rw [hz]; simp⟩)
          have hle' := ((le_least _ _).1 (Int.le_refl (least y2))).2 x (List.mem_of_getElem? hx) hc
          simp only [e1, e2, hr2, hk, cond_true, cond_false, h3, gd_true]
          refine W.call (w_Least _ (gi_set hg _ _).2) fun b hb => ?_
          subst hb
          refine W.call (w_Least _ h16) fun b hb => ?_
          subst hb
          simp only [ltB_not.2 hle, cond_false]
          refine W.call (w_Least _ h16) fun b hb => ?_
          subst hb
          simp only [show ltB o.E.Time (least y2) = false from ltB_not.2 (by omega), cond_false]
          refine W.call (w_Least _ h16) fun b hb => ?_
          subst hb
          have e3 : (least y2 == 1099511627777) = false := by simp; omega
          simp only [e3, cond_false]
          refine wf1 (l := ys) (fun _ => True) [] rfl rfl (by omega) trivial ?_ ?_
          · intro F' pre' d rest' hl1 k1 k2 k3 _ hn'
            obtain ⟨d0, x', hx', hd⟩ := hgot d (by rw [hl1]; simp)
            simp only [s_law32_GateOnce_2, k1, k2, k3, Option.bind_some, cond_true, s_event_Event_ID, W.cond, W.ret, W.gd, hn' trivial, true_and, leB_iff]
            have key : d.Source = o.E.Source → d.Seq < o.E.Seq := by
              intro hs
              rw [hs] at hx'
              rw [hx] at hx'
              cases hx'
              omega
            refine ⟨fun h => ?_, fun _ => ⟨fun h => ⟨fun h' => ?_, fun _ => trivial⟩, fun _ => trivial⟩⟩
            · simp only [Bool.and_eq_true, beq_iff_eq] at h
              have := key h.2.1
              omega
            · have := key (by simpa using h)
              omega
          · intro F' k1 _
            simp only [s_law32_GateOnce_2, k1, cond_false, s_event_Event_ID, Option.bind_some, h3, gd_true, W.gd, Nat.ble_eq]
            refine ⟨by omega, (hn _ _ _ ⟨gi_set hg _ _, by simp; omega, ?_⟩).lift⟩
            intro d hd
            rcases List.mem_append.1 hd with hd | hd
            · exact got_set hgot hx (by rw [hz]; show x.Last ≤ o.E.Seq; omega) d hd
            · obtain rfl := List.mem_singleton.1 hd
              obtain ⟨hb, _⟩ := List.getElem?_eq_some_iff.1 hx
              exact ⟨h0, z, by simp [List.getElem?_set]; simpa using hb, by rw [hz]; exact Int.le_refl _⟩
      · refine ⟨fun hk1 => ?_, fun hk1 => ?_⟩
        · refine W.call (w_Advance _ _ _ hg) fun r hr => ?_
          rcases hr with ⟨hr1, hr2⟩ | ⟨hr1, h0, hlen, x, z, hx, hc, ⟨hf, hq⟩, hr2⟩
          · have e1 : (r.2 != 0) = true := by simpa using hr1
            have e2 : (r.2 == 0) = false := by simpa using hr1
            simp only [e1, e2, hr2, cond_true, cond_false, h3, gd_true]
            refine W.call (w_gate_Same _ hg) fun b hb => ?_
            subst hb
            simp only [Bool.not_true, cond_false]
            refine W.call (w_Least _ h16) fun b hb => ?_
            subst hb
            refine W.call (w_Least _ h16) fun b hb => ?_
            subst hb
            simp only [ltB_irr, cond_false]
            exact hn _ _ _ ⟨hg, by simp; omega, hgot⟩
          · have e1 : (r.2 != 0) = false := by simp [hr1]
            have e2 : (r.2 == 0) = true := by simp [hr1]
            have hle := least_set (y := z) hx (fun hz => ⟨hc, hf⟩)
            simp only [e1, e2, hr2, hk, cond_true, cond_false, h3, gd_true]
            refine W.call (w_Least _ (gi_set hg _ _).2) fun b hb => ?_
            subst hb
            refine W.call (w_Least _ h16) fun b hb => ?_
            subst hb
            simp only [ltB_not.2 hle, cond_false]
            exact hn _ _ _ ⟨gi_set hg _ _, by simp; omega, got_set hgot hx (by rw [hq]; exact Int.le_refl _)⟩
        · refine W.call (w_Close _ _ hg) fun r hr => ?_
          rcases hr with ⟨hr1, hr2⟩ | ⟨hr1, h0, hlen, x, z, hx, hc, ⟨hf, hq⟩, hr2⟩
          · have e1 : (r.2 != 0) = true := by simpa using hr1
            have e2 : (r.2 == 0) = false := by simpa using hr1
            simp only [e1, e2, hr2, cond_true, cond_false, h3, gd_true]
            refine W.call (w_gate_Same _ hg) fun b hb => ?_
            subst hb
            simp only [Bool.not_true, cond_false]
            refine W.call (w_Least _ h16) fun b hb => ?_
            subst hb
            refine W.call (w_Least _ h16) fun b hb => ?_
            subst hb
            simp only [ltB_irr, cond_false]
            exact hn _ _ _ ⟨hg, by simp; omega, hgot⟩
          · have e1 : (r.2 != 0) = false := by simp [hr1]
            have e2 : (r.2 == 0) = true := by simp [hr1]
            have hle := least_set (y := z) hx (fun hz => ⟨hc, by simp [hf] at hz⟩)
            simp only [e1, e2, hr2, hk, cond_true, cond_false, h3, gd_true]
            refine W.call (w_Least _ (gi_set hg _ _).2) fun b hb => ?_
            subst hb
            refine W.call (w_Least _ h16) fun b hb => ?_
            subst hb
            simp only [ltB_not.2 hle, cond_false]
            exact hn _ _ _ ⟨gi_set hg _ _, by simp; omega, got_set hgot hx (by rw [hq]; exact Int.le_refl _)⟩
    · rintro F y y2 ys h1 _
      simp only [s_law32_GateOnce_1, h1, cond_false]
      exact aw _

#print axioms law_GateOnce
end Go.Proofs.YtfblfapkpieckaaDoor.W
namespace Go.Proofs.YtfblfapkpieckaaDoor.W
open Go
set_option linter.unusedSimpArgs false
set_option linter.unusedVariables false
set_option maxRecDepth 100000

theorem awake_at (n : Nat) : s_law32_awake (n + 40) = some true := by kernel_rfl
theorem w_law32_awake : W (fun N => s_law32_awake N) fun r => r = true := ⟨true, ⟨40, fun N hN => by
  obtain ⟨n, rfl⟩ : ∃ n, N = n + 40 := ⟨N - 40, by omega⟩
  exact awake_at n⟩, rfl⟩
theorem full_GateOnce (types : List schema_Type) (sources : Int) (l : List law32_Op) (_ : okL ok_schema_Type types) (_ : inK .i64 sources) (hl : okL ok_law32_Op l) : W (fun N => s_law32_GateOnce N types sources l) (· = true) :=
  law_GateOnce w_law32_awake types sources l fun o ho v hv => okS_le ((hl.1 o ho).2.2.2.2.2.2.2.1 v hv).2.2.2
end Go.Proofs.YtfblfapkpieckaaDoor.W
