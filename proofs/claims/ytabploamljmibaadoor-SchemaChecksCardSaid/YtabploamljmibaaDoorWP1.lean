/- What the law is handed, told as what its plain text takes. No premise beyond what each theorem says. -/
import Derived.Test.YtabploamljmibaaDoorWG1
import Derived.Test.YtabploamljmibaaDoorWA3
import Derived.Test.YtabploamljmibaaDoorWA4
set_option linter.all false
set_option linter.unusedSimpArgs false
set_option linter.unusedVariables false
namespace Go.Proofs.YtabploamljmibaaDoor.W
open Go
open Go.Proofs.Tryd
set_option maxRecDepth 1000000
set_option linter.unusedSimpArgs false
set_option linter.unusedVariables false
def ok_schema_Field (x : schema_Field) : Prop := okS x.Name ∧ (inK .u8) x.Kind
def ok_schema_Type (x : schema_Type) : Prop := okS x.Name ∧ (okL ok_schema_Field) x.Fields
def ok_anon_44 (x : anon_44) : Prop := (okL ok_schema_Type) x.i0 ∧ (okL ok_schema_Type) x.i1
theorem d_law06_SchemaChecks_t9 {H : Type} (d : DataW H) (cs : List AV) (h : DAv prog 9 d cs) : ∃ x : List UInt8, cs = [.v (.string (bs x))] ∧ okS x := by
  obtain ⟨x, h, h1⟩ := dv_string (by kernel_rfl) h
  exact ⟨x, h, h1⟩
theorem d_law06_SchemaChecks_t5 {H : Type} (d : DataW H) (cs : List AV) (h : DAv prog 5 d cs) : ∃ x : Int, cs = [.v (.int .u8 x)] ∧ (inK .u8) x := by
  obtain ⟨x, h, h1, h2⟩ := dv_int (k := .u8) (by kernel_rfl) h
  exact ⟨x, h, h1, h2⟩
theorem d_law06_SchemaChecks_t64 {H : Type} (d : DataW H) (cs : List AV) (h : DAv prog 64 d cs) : ∃ x : schema_Field, cs = [.v (.string (bs x.Name)), .v (.int .u8 x.Kind)] ∧ ok_schema_Field x := by
  obtain ⟨_, h⟩ := dv_struct (ts := [9, 5]) (by kernel_rfl) h
  obtain ⟨_, _, _, _, rfl, h0, h⟩ := dvs_cons h
  obtain ⟨_, _, _, _, rfl, h1, h⟩ := dvs_cons h
  obtain rfl := dvs_nil h
  obtain ⟨x0, rfl, k0⟩ := d_law06_SchemaChecks_t9 _ _ h0
  obtain ⟨x1, rfl, k1⟩ := d_law06_SchemaChecks_t5 _ _ h1
  exact ⟨⟨x0, x1⟩, rfl, ⟨k0, k1⟩⟩
theorem d_law06_SchemaChecks_t22 {H : Type} (d : DataW H) (cs : List AV) (h : DAv prog 22 d cs) : ∃ x : List schema_Field, cs = [.sl 2 (List.map eA0 x)] ∧ (okL ok_schema_Field) x := by
  obtain ⟨x, h, h1, h2⟩ := dv_slice (e := 64) (k := 2) eA0 ok_schema_Field (by kernel_rfl) (by kernel_rfl) (fun d cs h => by obtain ⟨x, h1, h2⟩ := d_law06_SchemaChecks_t64 d cs h; subst h1; exact ⟨x, mkE_agg (by kernel_rfl), h2⟩) h
  exact ⟨x, h, h1, h2⟩
theorem d_law06_SchemaChecks_t24 {H : Type} (d : DataW H) (cs : List AV) (h : DAv prog 24 d cs) : ∃ x : schema_Type, cs = [.v (.string (bs x.Name)), .sl 2 (List.map eA0 x.Fields)] ∧ ok_schema_Type x := by
  obtain ⟨_, h⟩ := dv_struct (ts := [9, 22]) (by kernel_rfl) h
  obtain ⟨_, _, _, _, rfl, h0, h⟩ := dvs_cons h
  obtain ⟨_, _, _, _, rfl, h1, h⟩ := dvs_cons h
  obtain rfl := dvs_nil h
  obtain ⟨x0, rfl, k0⟩ := d_law06_SchemaChecks_t9 _ _ h0
  obtain ⟨x1, rfl, k1⟩ := d_law06_SchemaChecks_t22 _ _ h1
  exact ⟨⟨x0, x1⟩, rfl, ⟨k0, k1⟩⟩
theorem d_law06_SchemaChecks_t27 {H : Type} (d : DataW H) (cs : List AV) (h : DAv prog 27 d cs) : ∃ x : List schema_Type, cs = [.sl 2 (List.map eA1 x)] ∧ (okL ok_schema_Type) x := by
  obtain ⟨x, h, h1, h2⟩ := dv_slice (e := 24) (k := 2) eA1 ok_schema_Type (by kernel_rfl) (by kernel_rfl) (fun d cs h => by obtain ⟨x, h1, h2⟩ := d_law06_SchemaChecks_t24 d cs h; subst h1; exact ⟨x, mkE_agg (by kernel_rfl), h2⟩) h
  exact ⟨x, h, h1, h2⟩
theorem d_law06_SchemaChecks_t44 {H : Type} (d : DataW H) (cs : List AV) (h : DAv prog 44 d cs) : ∃ x : anon_44, cs = [.sl 2 (List.map eA1 x.i0), .sl 2 (List.map eA1 x.i1)] ∧ ok_anon_44 x := by
  obtain ⟨_, h⟩ := dv_array (n := 2) (e := 27) (by kernel_rfl) h
  obtain ⟨_, _, _, _, rfl, h0, h⟩ := dvs_cons h
  obtain ⟨_, _, _, _, rfl, h1, h⟩ := dvs_cons h
  obtain rfl := dvs_nil h
  obtain ⟨x0, rfl, k0⟩ := d_law06_SchemaChecks_t27 _ _ h0
  obtain ⟨x1, rfl, k1⟩ := d_law06_SchemaChecks_t27 _ _ h1
  exact ⟨⟨x0, x1⟩, rfl, ⟨k0, k1⟩⟩
theorem d_law06_SchemaChecks {H : Type} (ds : List (DataW H)) (xs : List AV) (h : DAvV prog [44, 9] ds xs) :
    ∃ (l : anon_44) (name : List UInt8), xs = [.agg [.sl 2 (List.map eA1 l.i0), .sl 2 (List.map eA1 l.i1)], .v (.string (bs name))] ∧ ok_anon_44 l ∧ okS name := by
  obtain ⟨_, _, _, _, rfl, rfl, h0, h⟩ := dvv_cons h
  obtain ⟨_, _, _, _, rfl, rfl, h1, h⟩ := dvv_cons h
  obtain ⟨rfl, rfl⟩ := dvv_nil h
  obtain ⟨x0, rfl, k0⟩ := d_law06_SchemaChecks_t44 _ _ h0
  obtain ⟨x1, rfl, k1⟩ := d_law06_SchemaChecks_t9 _ _ h1
  exact ⟨x0, x1, by rw [mkE_agg (by kernel_rfl), mkE_one (by kernel_rfl)], k0, k1⟩
end Go.Proofs.YtabploamljmibaaDoor.W
namespace Go.Proofs.YtabploamljmibaaDoor.W
open Go
set_option linter.unusedSimpArgs false
set_option linter.unusedVariables false

theorem wall {α : Type} {f : Nat → Option α} {a : α} (h : ∀ N, f N = some a) : W f (· = a) := ⟨a, ⟨0, fun N _ => h N⟩, rfl⟩
theorem drop_len {α β : Type} {l : List α} {q : List β} (hl : l.length = q.length) {pre rest : List α} {e : α} (h : l = pre ++ e :: rest) : ∃ f rest2, q.drop pre.length = f :: rest2 ∧ q.drop (pre.length + 1) = rest2 ∧ ix q (pre.length : Int) = some f := by
  have hi : pre.length < q.length := by rw [← hl, h]; simp
  exact ⟨q[pre.length], _, List.drop_eq_getElem_cons hi, rfl, by rw [ix_nat']; exact List.getElem?_eq_getElem hi⟩
theorem wid {ι : Type} [Lim ι] {α : Type} {f : ι → Option α} {Q : α → Prop} : W (fun i => (f i).bind fun a => some a) Q ↔ W f Q := by
  have : (fun i => (f i).bind fun a => some a) = f := by funext i; cases f i <;> rfl
  rw [this]
theorem ix_app {α : Type} {l r : List α} {j : Int} {e : α} (h : ix l j = some e) (h0 : 0 ≤ j) : ix (l ++ r) j = some e := by
  obtain ⟨n, rfl⟩ := Int.eq_ofNat_of_zero_le h0
  rw [ix_nat'] at h ⊢
  obtain ⟨hn, _⟩ := List.getElem?_eq_some_iff.1 h
  rw [List.getElem?_append_left hn, h]
end Go.Proofs.YtabploamljmibaaDoor.W
namespace Go.Proofs.YtabploamljmibaaDoor.W
open Go
set_option linter.unusedSimpArgs false
set_option linter.unusedVariables false

def small (l : List schema_Type) : Prop := l.length ≤ 12 ∧ ∀ t ∈ l, t.Name.length ≤ 40 ∧ t.Fields.length ≤ 12 ∧ ∀ f ∈ t.Fields, f.Name.length ≤ 40
theorem w_law06_Over (l : List schema_Type) : W (fun N => s_law06_Over N l) fun r => ¬ 0 < r → small l := by
  simp only [s_law06_Over, W.cond, W.ret, ltB_iff, ltB_not]
  refine ⟨by omega, fun hl => ?_⟩
  refine wf1 (l := l) (fun pre => ∀ t ∈ pre, t.Name.length ≤ 40 ∧ t.Fields.length ≤ 12 ∧ ∀ f ∈ t.Fields, f.Name.length ≤ 40) [] rfl rfl (by omega) (by simp) ?_ ?_
  · intro F pre t rest hl h1 h2 h3 hp hn
    simp only [s_law06_Over_1, h1, h2, W.some, W.cond, W.ret, ltB_iff, ltB_not]
    refine ⟨fun _ => ⟨by omega, fun hn1 => ⟨by omega, fun hn2 => ?_⟩⟩, by simp⟩
    refine wf1 (l := t.Fields) (fun pre => ∀ f ∈ pre, f.Name.length ≤ 40) [] rfl rfl (by omega) (by simp) ?_ ?_
    · intro F' pre' f rest' hl' k1 k2 k3 hp' hn'
      simp only [s_law06_Over_2, h1, h2, k1, k2, k3, W.some, W.cond, W.ret, gd_true, ltB_iff, ltB_not]
      refine ⟨fun _ => ⟨by omega, fun hf => hn' ?_⟩, by simp⟩
      simp only [List.mem_append, List.mem_singleton]
      rintro f (h | rfl)
      · exact hp' f h
      · omega
    · intro F' k1 hp'
      simp only [s_law06_Over_2, h1, h2, h3, k1, W.some, W.cond, W.ret, gd_true]
      refine ⟨by simp, fun _ => (hn ?_).lift⟩
      simp only [List.mem_append, List.mem_singleton]
      rintro t (h | rfl)
      · exact hp t h
      · exact ⟨by omega, by omega, hp'⟩
  · intro F h1 hp
    simp only [s_law06_Over_1, h1, W.some, W.cond, W.ret]
    exact ⟨by simp, fun _ _ => ⟨by omega, hp⟩⟩

theorem W.tt {ι : Type} [Lim ι] {α : Type} {f : ι → Option α} {Q : α → Prop} (h : W f Q) : W f fun _ => True := h.mp fun _ _ => trivial

theorem w_law06_Own (l : List schema_Type) (h : small l) : W (fun N => s_law06_Own N l) fun r => r = l := by
  have h12 := h.1
  refine wf2a (l := l) (fun pre ys => ys = pre) [] rfl rfl (by omega) rfl ?_ ?_
  · rintro F pre t rest ys hl h1 h2 h3 rfl hn
    have ht := (h.2 t (by rw [hl]; simp)).2.1
    have hp : ys.length ≤ 12 := by rw [hl, List.length_append] at h12; omega
    simp only [s_law06_Own_1, h1, h2, W.some, cond_true]
    refine wf3a (l := t.Fields) (fun pre' a b => a = ys ∧ b = pre') [] rfl rfl (by omega) ⟨rfl, rfl⟩ ?_ ?_
    · rintro F' pre' f rest' a b hl' k1 k2 k3 ⟨rfl, rfl⟩ hn'
      have : b.length ≤ 12 := by rw [hl', List.length_append] at ht; omega
      simp only [s_law06_Own_2, h1, h2, k1, k2, k3, W.some, cond_true, W.gd, Nat.ble_eq, true_and]
      exact ⟨by omega, hn' _ _ ⟨rfl, rfl⟩⟩
    · rintro F' a b k1 ⟨rfl, rfl⟩
      simp only [s_law06_Own_2, h1, h2, h3, k1, W.some, cond_false, W.gd, Nat.ble_eq, true_and]
      exact ⟨by omega, (hn _ rfl).lift⟩
  · rintro F ys h1 rfl
    simp only [s_law06_Own_1, h1, cond_false, W.ret]

end Go.Proofs.YtabploamljmibaaDoor.W
namespace Go.Proofs.YtabploamljmibaaDoor.W
open Go
set_option linter.unusedSimpArgs false
set_option linter.unusedVariables false

def resl : List (List UInt8) := [[119, 105, 116, 104, 105, 110], [98, 121], [97, 110, 100], [111, 114], [110, 111, 116], [97, 110, 121], [110, 101, 120, 116], [115, 116, 114, 105, 99, 116], [116, 114, 117, 101], [102, 97, 108, 115, 101]]
def resv (s : List UInt8) : Bool := resl.any (s == ·)
theorem w_schema_Reserved (s : List UInt8) : W (fun N => s_schema_Reserved N s) (· = resv s) := by
  refine wall fun N => ?_
  have e2 : ∀ (b r : Bool), (bif b then some true else some r) = some (b || r) := by intro b r; cases b <;> rfl
  unfold s_schema_Reserved
  have e3 : ∀ (b r r' : Bool), (bif b then some (b || r') else some r) = some (b || r) := by intro b r r'; cases b <;> rfl
  have e4 : ∀ (b r : Bool), (bif b then some b else some r) = some (b || r) := by intro b r; cases b <;> rfl
  simp only [resv, resl, List.any_cons, List.any_nil, e2, e3, e4, Bool.or_false]
theorem w_ref06_Reserved (s : List UInt8) : W (fun N => s_ref06_Reserved N s) (· = resv s) := by
  refine wr1 (l := resl) (fun _ rest => rest.any (s == ·)) [] resl rfl rfl (by decide) ?_ ?_
  · intro F pre e rest hl h1 h2 h3 hn
    simp only [s_ref06_Reserved_1]
    rw [show ltB (pre.length : Int) (List.length ([[119, 105, 116, 104, 105, 110], [98, 121], [97, 110, 100], [111, 114], [110, 111, 116], [97, 110, 121], [110, 101, 120, 116], [115, 116, 114, 105, 99, 116], [116, 114, 117, 101], [102, 97, 108, 115, 101]] : List (List UInt8)) : Int) = true from h1]
    have h2' : ix ([[119, 105, 116, 104, 105, 110], [98, 121], [97, 110, 100], [111, 114], [110, 111, 116], [97, 110, 121], [110, 101, 120, 116], [115, 116, 114, 105, 99, 116], [116, 114, 117, 101], [102, 97, 108, 115, 101]] : List (List UInt8)) (pre.length : Int) = some e := h2
    simp only [h2', h3, Option.bind_some, cond_true, List.any_cons, gd_true, W.cond, W.ret]
    rw [show (e == s) = (s == e) from BEq.comm]
    refine ⟨fun h => by simp only [h, Bool.true_or], fun h => by simp only [h, Bool.false_or]; exact hn⟩
  · intro F h1
    simp only [s_ref06_Reserved_1]
    rw [show ltB (resl.length : Int) (List.length ([[119, 105, 116, 104, 105, 110], [98, 121], [97, 110, 100], [111, 114], [110, 111, 116], [97, 110, 121], [110, 101, 120, 116], [115, 116, 114, 105, 99, 116], [116, 114, 117, 101], [102, 97, 108, 115, 101]] : List (List UInt8)) : Int) = false from h1]
    exact W.ret.2 rfl

def ltr (c : UInt8) : Bool := leB 97 (c.toNat : Int) && leB (c.toNat : Int) 122
def tl (c : UInt8) : Bool := ltr c || (leB 48 (c.toNat : Int) && leB (c.toNat : Int) 57) || ((c.toNat : Int) == 95)
def nm : List UInt8 → Bool
  | [] => false
  | c :: t => !(ltB 12 ((c :: t).length : Int)) && (ltr c && (!resv (c :: t) && t.all tl))
theorem e_schema_letter (c : UInt8) (N : Nat) : s_schema_letter N (c.toNat : Int) = some (ltr c) := by
  simp only [s_schema_letter, ltr]; cases leB 97 (c.toNat : Int) <;> rfl
theorem e_schema_tail (c : UInt8) (N : Nat) : s_schema_tail N (c.toNat : Int) = some (tl c) := by
  simp only [s_schema_tail, e_schema_letter, Option.bind_some, tl]
  cases ltr c <;> cases leB 48 (c.toNat : Int) <;> cases leB (c.toNat : Int) 57 <;> rfl
theorem w_schema_Name (s : List UInt8) : W (fun N => s_schema_Name N s) (· = nm s) := by
  cases s with
  | nil => exact wall fun _ => rfl
  | cons c t =>
    simp only [s_schema_Name, show ((c :: t) == ([] : List UInt8)) = false from rfl, cond_false, W.cond, W.ret, show ix (c :: t) 0 = some c from rfl, Option.bind_some, e_schema_letter]
    refine ⟨fun h => by simp only [nm, h, Bool.not_true, Bool.false_and], fun h => ⟨fun h' => ?_, fun h' => ?_⟩⟩
    · have h' : ltr c = false := by simpa using h'
      simp only [nm, h', Bool.false_and, Bool.and_false]
    have h' : ltr c = true := by simpa using h'
    simp only [nm, h, h', Bool.not_false, Bool.true_and]
    refine W.call (w_schema_Reserved _) ?_
    rintro _ rfl
    simp only [W.cond, W.ret]
    refine ⟨fun h2 => by simp only [h2, Bool.not_true, Bool.false_and], fun h2 => ?_⟩
    simp only [h2, Bool.not_false, Bool.true_and]
    have hb := ltB_not.1 h
    refine wr1 (l := c :: t) (fun _ rest => rest.all tl) [c] t rfl rfl (by omega) ?_ ?_
    · intro F pre e rest hl h1 h2 h3 hn
      simp only [s_schema_Name_1, h1, h2, h3, Option.bind_some, cond_true, e_schema_tail, W.cond, W.ret, gd_true, List.all_cons]
      refine ⟨fun h => ?_, fun h => ?_⟩
      · have h : tl e = false := by simpa using h
        simp only [h, Bool.false_and]
      · have h : tl e = true := by simpa using h
        simp only [h, Bool.true_and]; exact hn
    · intro F h1
      simp only [s_schema_Name_1, h1, cond_false, W.ret, List.all_nil]

def nmr : List UInt8 → List UInt8 → Bool
  | [], c :: t => ltr c && t.all tl
  | [], [] => true
  | _ :: _, rest => rest.all tl
theorem nmr_cons (pre : List UInt8) (e : UInt8) (rest : List UInt8) : nmr pre (e :: rest) = (if (if pre = [] then ltr e else tl e) = true then rest.all tl else false) := by
  cases pre with
  | nil => simp only [nmr, if_true]; cases ltr e <;> rfl
  | cons c t => simp only [nmr, List.all_cons, reduceCtorEq, if_false]; cases tl e <;> rfl
theorem nmr_snoc (pre : List UInt8) (e : UInt8) (rest : List UInt8) : nmr (pre ++ [e]) rest = rest.all tl := by
  cases pre <;> rfl
theorem w_ref06_Name (s : List UInt8) : W (fun N => s_ref06_Name N s) (· = nm s) := by
  cases s with
  | nil => exact wall fun _ => rfl
  | cons c t =>
    have e0 : ltB (((c :: t).length : Nat) : Int) 1 = false := ltB_not.2 (by simp; omega)
    simp only [s_ref06_Name, e0, cond_false, W.cond, W.ret]
    refine ⟨fun h => by simp only [nm, h, Bool.not_true, Bool.false_and], fun h => ?_⟩
    simp only [nm, h, Bool.not_false, Bool.true_and]
    refine W.call (w_ref06_Reserved _) ?_
    rintro _ rfl
    simp only [W.cond, W.ret]
    refine ⟨fun h2 => by simp only [h2, Bool.not_true, Bool.false_and, Bool.and_false], fun h2 => ?_⟩
    simp only [h2, Bool.not_false, Bool.true_and]
    have hb := ltB_not.1 h
    refine wr1 (l := c :: t) nmr [] (c :: t) rfl rfl (by omega) ?_ ?_
    · intro F pre e rest hl h1 h2 h3 hn
      simp only [s_ref06_Name_1, h1, h2, h3, Option.bind_some, cond_true, gd_true]
      rw [nmr_cons]
      rw [nmr_snoc] at hn
      have hi0 : ((pre.length : Int) == 0) = decide (pre = []) := by cases pre <;> simp <;> omega
      have e95 : (((e.toNat : Int) == 95) : Bool) = decide (e.toNat = 95) := by rw [Bool.eq_iff_iff]; simp; omega
      have a1 : leB 97 (e.toNat : Int) = decide (97 ≤ e.toNat) := by rw [leB_eq]; simp only [decide_eq_decide]; omega
      have a2 : leB 48 (e.toNat : Int) = decide (48 ≤ e.toNat) := by rw [leB_eq]; simp only [decide_eq_decide]; omega
      have a3 : leB (e.toNat : Int) 57 = decide (e.toNat ≤ 57) := by rw [leB_eq]; simp only [decide_eq_decide]; omega
      have a4 : leB (e.toNat : Int) 122 = decide (e.toNat ≤ 122) := by rw [leB_eq]; simp only [decide_eq_decide]; omega
      simp only [hi0, e95, a1, a2, a3, a4, tl, ltr]
      generalize rest.all tl = R at hn ⊢
      by_cases b0 : pre = [] <;> by_cases b1 : 97 ≤ e.toNat <;> by_cases b2 : 48 ≤ e.toNat <;> by_cases b3 : e.toNat ≤ 57 <;> by_cases b4 : e.toNat ≤ 122 <;> by_cases b5 : e.toNat = 95 <;>
        first | (exfalso; omega) | (simp only [b0, b1, b2, b3, b4, b5, decide_true, decide_false, if_true, if_false, cond_true, cond_false, Bool.not_true, Bool.not_false, Bool.true_and, Bool.and_true, Bool.false_and, Bool.and_false, Bool.true_or, Bool.or_true, Bool.false_or, Bool.or_false, reduceCtorEq, Bool.false_eq_true]; first | exact hn | (subst b0; exact hn) | exact W.ret.2 rfl)
    · intro F h1
      simp only [s_ref06_Name_1, h1, cond_false, W.ret, nmr, List.all_nil]
end Go.Proofs.YtabploamljmibaaDoor.W
namespace Go.Proofs.YtabploamljmibaaDoor.W
open Go
set_option linter.unusedSimpArgs false
set_option linter.unusedVariables false

def wordO (k : Int) : List UInt8 := (s_value_Word 0 k).getD []
theorem e_value_Word (k : Int) (N : Nat) : s_value_Word N k = some (wordO k) := by
  unfold wordO s_value_Word
  simp only [Bool.cond_eq_ite]
  repeat' split
  all_goals rfl
theorem e_ref04_Word (k : Int) (N : Nat) : s_ref04_Word N k = some (wordO k) := e_value_Word k N

def fld (name : List UInt8) : Nat → List schema_Field → Int × Int
  | _, [] => (-1, 0)
  | i, f :: r => if f.Name == name then ((i : Int), f.Kind) else fld name (i + 1) r
theorem w_schema_Field (t : schema_Type) (name : List UInt8) (hb : t.Fields.length ≤ 1000) : W (fun N => s_schema_Type_Field N t name) (· = fld name 0 t.Fields) := by
  refine wr1 (l := t.Fields) (fun pre rest => fld name pre.length rest) [] t.Fields rfl rfl (by omega) ?_ ?_
  · intro F pre e rest hl h1 h2 h3 hn
    rw [List.length_append, List.length_singleton] at hn
    simp only [s_schema_Type_Field_1, h1, h2, h3, Option.bind_some, cond_true, W.cond, W.ret, gd_true, fld]
    exact ⟨fun h => by simp only [h, if_true], fun h => by simp only [h, Bool.false_eq_true, if_false]; exact hn⟩
  · intro F h1
    simp only [s_schema_Type_Field_1, h1, cond_false, W.ret, fld]
theorem w_ref06_At (t : schema_Type) (name : List UInt8) (hb : t.Fields.length ≤ 1000) : W (fun N => s_ref06_At N t name) (· = fld name 0 t.Fields) := by
  refine wr1 (l := t.Fields) (fun pre rest => fld name pre.length rest) [] t.Fields rfl rfl (by omega) ?_ ?_
  · intro F pre e rest hl h1 h2 h3 hn
    rw [List.length_append, List.length_singleton] at hn
    simp only [s_ref06_At_1, h1, h2, h3, Option.bind_some, cond_true, W.cond, W.ret, gd_true, fld]
    exact ⟨fun h => by simp only [h, if_true], fun h => by simp only [h, Bool.false_eq_true, if_false]; exact hn⟩
  · intro F h1
    simp only [s_ref06_At_1, h1, cond_false, W.ret, fld]
theorem fld_at (e : schema_Field) (rest : List schema_Field) : ∀ (pre : List schema_Field) (j : Nat),
    ((fld e.Name j (pre ++ e :: rest)).1 != ((j + pre.length : Nat) : Int)) = pre.any (fun f => f.Name == e.Name) ∧ (j : Int) ≤ (fld e.Name j (pre ++ e :: rest)).1
  | [], j => by simp [fld]
  | f :: pre, j => by
    obtain ⟨h1, h2⟩ := fld_at e rest pre (j + 1)
    by_cases h : (f.Name == e.Name) = true
    · simp only [List.cons_append, fld, h, if_true, List.any_cons, Bool.true_or, Int.le_refl, and_true, bne_iff_ne, ne_eq, List.length_cons]
      omega
    · have h := eq_false_of_ne_true h
      simp only [List.cons_append, fld, h, List.any_cons, Bool.false_or, List.length_cons, Bool.false_eq_true, if_false]
      refine ⟨?_, by omega⟩
      rw [← h1]
      congr 2
      omega

def cf : List schema_Field → List schema_Field → Int
  | _, [] => 0
  | pre, f :: r => if nm f.Name then (if wordO f.Kind == [] then 11 else if pre.any (fun g => g.Name == f.Name) then 21 else cf (pre ++ [f]) r) else 4
def one (t : schema_Type) : Int := if nm t.Name then (if ltB 6 (t.Fields.length : Int) then 5 else cf [] t.Fields) else 4
theorem w_schema_check (t : schema_Type) : W (fun N => s_schema_Type_check N t) (· = one t) := by
  simp only [s_schema_Type_check, one]
  refine W.call (w_schema_Name _) ?_
  rintro _ rfl
  simp only [W.cond, W.ret]
  refine ⟨fun h => by have h : nm t.Name = false := by simpa using h
                      simp only [h, Bool.false_eq_true, if_false], fun h => ?_⟩
  have h : nm t.Name = true := by simpa using h
  simp only [h, if_true]
  refine ⟨fun h2 => by simp only [h2, if_true], fun h2 => ?_⟩
  have hb := ltB_not.1 h2
  simp only [h2, Bool.false_eq_true, if_false]
  refine wr1 (l := t.Fields) cf [] t.Fields rfl rfl (by omega) ?_ ?_
  · intro F pre e rest hl h1 h2 h3 hn
    simp only [s_schema_Type_check_1, h1, h2, h3, Option.bind_some, cond_true, gd_true, cf]
    refine W.call (w_schema_Field t e.Name (by omega)) ?_
    rintro _ rfl
    refine W.call (w_schema_Name _) ?_
    rintro _ rfl
    have h5 := (fld_at e rest pre 0).1
    rw [← hl, Nat.zero_add] at h5
    simp only [W.cond, W.ret, e_value_Word, Option.bind_some, h5]
    refine ⟨fun h => by have h : nm e.Name = false := by simpa using h
                        simp only [h, Bool.false_eq_true, if_false], fun h => ?_⟩
    have h : nm e.Name = true := by simpa using h
    simp only [h, if_true]
    refine ⟨fun h => by simp only [h, if_true], fun h => ⟨fun h' => by simp only [h, h', Bool.false_eq_true, if_false, if_true], fun h' => ?_⟩⟩
    simp only [h, h', Bool.false_eq_true, if_false]; exact hn
  · intro F h1
    simp only [s_schema_Type_check_1, h1, cond_false, W.ret, cf]
theorem w_ref06_one (t : schema_Type) : W (fun N => s_ref06_one N t) (· = one t) := by
  simp only [s_ref06_one, one]
  refine W.call (w_ref06_Name _) ?_
  rintro _ rfl
  simp only [W.cond, W.ret]
  refine ⟨fun h => by have h : nm t.Name = false := by simpa using h
                      simp only [h, Bool.false_eq_true, if_false], fun h => ?_⟩
  have h : nm t.Name = true := by simpa using h
  simp only [h, if_true]
  refine ⟨fun h2 => by simp only [h2, if_true], fun h2 => ?_⟩
  have hb := ltB_not.1 h2
  simp only [h2, Bool.false_eq_true, if_false]
  refine wr1 (l := t.Fields) cf [] t.Fields rfl rfl (by omega) ?_ ?_
  · intro F pre e rest hl h1 h2 h3 hn
    have hpl : pre.length ≤ 6 := by have := ltB_iff.1 h1; omega
    simp only [s_ref06_one_1, h1, h2, Option.bind_some, cond_true, gd_true, cf]
    refine W.call (w_ref06_Name _) ?_
    rintro _ rfl
    simp only [W.cond, W.ret, e_ref04_Word, Option.bind_some]
    refine ⟨fun h => by have h : nm e.Name = false := by simpa using h
                        simp only [h, Bool.false_eq_true, if_false], fun h => ?_⟩
    have h : nm e.Name = true := by simpa using h
    simp only [h, if_true]
    refine ⟨fun h => by simp only [h, if_true], fun h => ?_⟩
    simp only [h, Bool.false_eq_true, if_false]
    refine wr1 (l := pre) (fun _ r => if (r.any fun f => f.Name == e.Name) = true then 21 else cf (pre ++ [e]) rest) [] pre rfl rfl (by omega) ?_ ?_
    · intro F2 pre2 e2 rest2 hl2 k1 k2 k3 hn2
      have k4 : ix t.Fields (pre2.length : Int) = some e2 := by rw [hl]; exact ix_app k2 (by omega)
      simp only [s_ref06_one_2, k1, k3, k4, Option.bind_some, cond_true, gd_true, W.cond, W.ret, List.any_cons]
      exact ⟨fun h => by simp only [h, Bool.true_or, if_true], fun h => by simp only [h, Bool.false_or]; exact hn2⟩
    · intro F2 k1
      simp only [s_ref06_one_2, k1, h3, cond_false, gd_true, List.any_nil, Bool.false_eq_true, if_false]
      exact hn.lift
  · intro F h1
    simp only [s_ref06_one_1, h1, cond_false, W.ret, cf]

def fnd (name : List UInt8) : List schema_Type → schema_Type × Bool
  | [] => (schema_Type.mk [] [], false)
  | t :: r => if t.Name == name then (t, true) else fnd name r
theorem fnd_any (name : List UInt8) : ∀ l, (fnd name l).2 = l.any fun t => t.Name == name
  | [] => rfl
  | t :: r => by
    by_cases h : (t.Name == name) = true
    · simp [fnd, h]
    · have h := eq_false_of_ne_true h
      simp [fnd, h, fnd_any name r]
theorem fnd_small (name : List UInt8) {l : List schema_Type} (h : small l) : small [(fnd name l).1] := by
  refine ⟨by simp, fun t ht => ?_⟩
  obtain rfl := List.mem_singleton.1 ht
  have : ∀ l : List schema_Type, (∀ t ∈ l, t.Name.length ≤ 40 ∧ t.Fields.length ≤ 12 ∧ ∀ f ∈ t.Fields, f.Name.length ≤ 40) → (fnd name l).1.Name.length ≤ 40 ∧ (fnd name l).1.Fields.length ≤ 12 ∧ ∀ f ∈ (fnd name l).1.Fields, f.Name.length ≤ 40 := by
    intro l
    induction l with
    | nil => intro _; simp [fnd]
    | cons t r ih =>
      intro h
      simp only [fnd]
      split
      · exact h t (by simp)
      · exact ih fun t ht => h t (by simp [ht])
  exact this l h.2
theorem w_schema_Find (l : List schema_Type) (name : List UInt8) (hb : small l) : W (fun N => s_schema_Find N l name) (· = fnd name l) := by
  have h12 := hb.1
  refine wr1 (l := l) (fun _ rest => fnd name rest) [] l rfl rfl (by omega) ?_ ?_
  · intro F pre e rest hl h1 h2 h3 hn
    have he := (hb.2 e (by rw [hl]; simp)).2.1
    simp only [s_schema_Find_1, h1, h2, h3, Option.bind_some, cond_true, W.cond, gd_true, fnd]
    refine ⟨fun h => ?_, fun h => by simp only [h, Bool.false_eq_true, if_false]; exact hn⟩
    rw [W.clone (by omega)]
    obtain rfl := eq_of_beq h
    simp only [BEq.rfl, if_true]
    exact W.ret.2 rfl
  · intro F h1
    simp only [s_schema_Find_1, h1, cond_false, W.ret, fnd]
theorem w_ref06_Find (l : List schema_Type) (name : List UInt8) (hb : small l) : W (fun N => s_ref06_Find N l name) (· = fnd name l) := by
  have h12 := hb.1
  refine wr1 (l := l) (fun _ rest => fnd name rest) [] l rfl rfl (by omega) ?_ ?_
  · intro F pre e rest hl h1 h2 h3 hn
    simp only [s_ref06_Find_1, h1, h2, h3, Option.bind_some, cond_true, W.cond, W.ret, gd_true, fnd]
    exact ⟨fun h => by simp only [h, if_true], fun h => by simp only [h, Bool.false_eq_true, if_false]; exact hn⟩
  · intro F h1
    simp only [s_ref06_Find_1, h1, cond_false, W.ret, fnd]

def ck : List schema_Type → List schema_Type → Int
  | _, [] => 0
  | pre, t :: r => if one t != 0 then one t else if pre.any (fun g => g.Name == t.Name) then 21 else ck (pre ++ [t]) r
def chk (l : List schema_Type) : Int := if ltB 8 (l.length : Int) then 5 else ck [] l
theorem small_pre {l pre rest : List schema_Type} (h : small l) (hl : l = pre ++ rest) : small pre := ⟨by have := h.1; rw [hl, List.length_append] at this; omega, fun t ht => h.2 t (by rw [hl]; simp [ht])⟩
theorem w_schema_Check (l : List schema_Type) (hs : small l) : W (fun N => s_schema_Check N l) (· = chk l) := by
  have h12 := hs.1
  simp only [s_schema_Check, chk, W.cond, W.ret]
  refine ⟨fun h => by simp only [h, if_true], fun h => ?_⟩
  simp only [h, Bool.false_eq_true, if_false]
  refine wr1 (l := l) ck [] l rfl rfl (by omega) ?_ ?_
  · intro F pre e rest hl h1 h2 h3 hn
    have h4 := ltB_iff.1 h1
    simp only [s_schema_Check_1, h1, h2, h3, Option.bind_some, cond_true, gd_true, ck]
    refine W.call (w_schema_check e) ?_
    rintro _ rfl
    simp only [W.cond, W.ret, W.gd, leB_iff]
    refine ⟨fun h => by simp only [h, if_true], fun h => ⟨by omega, by omega, ?_⟩⟩
    have ht : List.take ((pre.length : Int)).toNat l = pre := by rw [hl]; simp
    rw [ht]
    simp only [h, Bool.false_eq_true, if_false]
    refine W.call (w_schema_Find _ e.Name (small_pre hs hl)) ?_
    rintro _ rfl
    simp only [W.cond, W.ret, fnd_any]
    exact ⟨fun h => by simp only [h, if_true], fun h => by simp only [h, Bool.false_eq_true, if_false]; exact hn⟩
  · intro F h1
    simp only [s_schema_Check_1, h1, cond_false, W.ret, ck]
theorem w_ref06_Check (l : List schema_Type) (h12 : l.length ≤ 1000) : W (fun N => s_ref06_Check N l) (· = chk l) := by
  simp only [s_ref06_Check, chk, W.cond, W.ret]
  refine ⟨fun h => by simp only [h, if_true], fun h => ?_⟩
  simp only [h, Bool.false_eq_true, if_false]
  refine wr1 (l := l) ck [] l rfl rfl (by omega) ?_ ?_
  · intro F pre e rest hl h1 h2 h3 hn
    have h4 := ltB_iff.1 h1
    simp only [s_ref06_Check_1, h1, h2, Option.bind_some, cond_true, ck]
    refine W.call (w_ref06_one e) ?_
    rintro _ rfl
    simp only [W.cond, W.ret]
    refine ⟨fun h => by simp only [h, if_true], fun h => ?_⟩
    simp only [h, Bool.false_eq_true, if_false]
    refine wr1 (l := pre) (fun _ r => if (r.any fun g => g.Name == e.Name) = true then 21 else ck (pre ++ [e]) rest) [] pre rfl rfl (by omega) ?_ ?_
    · intro F2 pre2 e2 rest2 hl2 k1 k2 k3 hn2
      have k4 : ix l (pre2.length : Int) = some e2 := by rw [hl]; exact ix_app k2 (by omega)
      simp only [s_ref06_Check_2, k1, k3, k4, h2, Option.bind_some, cond_true, gd_true, W.cond, W.ret, List.any_cons]
      exact ⟨fun h => by simp only [h, Bool.true_or, if_true], fun h => by simp only [h, Bool.false_or]; exact hn2⟩
    · intro F2 k1
      simp only [s_ref06_Check_2, k1, h3, cond_false, gd_true, List.any_nil, Bool.false_eq_true, if_false]
      exact hn.lift
  · intro F h1
    simp only [s_ref06_Check_1, h1, cond_false, W.ret, ck]
end Go.Proofs.YtabploamljmibaaDoor.W
namespace Go.Proofs.YtabploamljmibaaDoor.W
open Go
set_option linter.unusedSimpArgs false
set_option linter.unusedVariables false

def eqf : List schema_Field → List schema_Field → Bool
  | a :: r, b :: q => ((a.Name == b.Name) && (a.Kind == b.Kind)) && eqf r q
  | _, _ => true
def eqt (x y : schema_Type) : Bool := (x.Name == y.Name) && (!((x.Fields.length : Int) != (y.Fields.length : Int)) && eqf x.Fields y.Fields)
def eqs : List schema_Type → List schema_Type → Bool
  | x :: r, y :: q => eqt x y && eqs r q
  | _, _ => true
def sme (a b : List schema_Type) : Bool := !((a.length : Int) != (b.length : Int)) && eqs a b
theorem w_Equal (a b : List schema_Field) (hb : a.length ≤ 1000) : W (fun N => s_slices_Equal_schema_Field N a b) (· = (!((a.length : Int) != (b.length : Int)) && eqf a b)) := by
  simp only [s_slices_Equal_schema_Field, W.cond, W.ret]
  refine ⟨fun h => by simp only [h, Bool.not_true, Bool.false_and], fun h => ?_⟩
  have hl : a.length = b.length := by have := bne_eq_false_iff_eq.1 h; omega
  simp only [h, Bool.not_false, Bool.true_and]
  refine wr1 (l := a) (fun pre rest => eqf rest (b.drop pre.length)) [] a rfl rfl (by omega) ?_ ?_
  · intro F pre e rest hl' h1 h2 h3 hn
    obtain ⟨f, rest2, q1, q2, q3⟩ := drop_len hl hl'
    rw [List.length_append, List.length_singleton, q2] at hn
    simp only [s_slices_Equal_schema_Field_1, h1, h2, h3, q1, q3, Option.bind_some, cond_true, gd_true, W.cond, W.ret, eqf]
    refine ⟨fun h => ?_, fun h => ?_⟩
    · rw [Bool.not_eq_true'] at h
      rw [h, Bool.false_and]
    · rw [Bool.not_eq_false'] at h
      rw [h]; simp only [Bool.true_and]; exact hn
  · intro F h1
    simp only [s_slices_Equal_schema_Field_1, h1, cond_false, W.ret, eqf]
theorem w_schema_Same (a b : List schema_Type) (ha : small a) : W (fun N => s_schema_Same N a b) (· = sme a b) := by
  have h12 := ha.1
  have key : W (fun N => s_slices_EqualFunc_schema_Type_v029 N a b) (· = sme a b) := by
    simp only [s_slices_EqualFunc_schema_Type_v029, W.cond, W.ret, sme]
    refine ⟨fun h => by simp only [h, Bool.not_true, Bool.false_and], fun h => ?_⟩
    have hl : a.length = b.length := by have := bne_eq_false_iff_eq.1 h; omega
    simp only [h, Bool.not_false, Bool.true_and]
    refine wr1 (l := a) (fun pre rest => eqs rest (b.drop pre.length)) [] a rfl rfl (by omega) ?_ ?_
    · intro F pre e rest hl' h1 h2 h3 hn
      obtain ⟨f, rest2, q1, q2, q3⟩ := drop_len hl hl'
      have he := (ha.2 e (by rw [hl']; simp)).2.1
      have ht : W (fun N => s_schema_Same_L1 N e f) (· = eqt e f) := by
        simp only [s_schema_Same_L1, W.cond, W.ret, eqt]
        refine ⟨fun h => ?_, fun h => by simp only [h, Bool.false_and]⟩
        simp only [h, Bool.true_and]
        exact wid.2 (w_Equal e.Fields f.Fields (by omega))
      rw [List.length_append, List.length_singleton, q2] at hn
      simp only [s_slices_EqualFunc_schema_Type_v029_1, h1, h2, h3, q1, q3, Option.bind_some, cond_true, gd_true, eqs]
      refine W.call ht ?_
      rintro _ rfl
      simp only [W.cond, W.ret]
      refine ⟨fun h => ?_, fun h => ?_⟩
      · rw [Bool.not_eq_true'] at h
        rw [h, Bool.false_and]
      · rw [Bool.not_eq_false'] at h
        rw [h]; simp only [Bool.true_and]; exact hn
    · intro F h1
      simp only [s_slices_EqualFunc_schema_Type_v029_1, h1, cond_false, W.ret, eqs]
  exact wid.2 key
theorem w_ref06_Same (a b : List schema_Type) (ha : small a) : W (fun N => s_ref06_Same N a b) (· = sme a b) := by
  have h12 := ha.1
  simp only [s_ref06_Same, W.cond, W.ret, sme]
  refine ⟨fun h => by simp only [h, Bool.not_true, Bool.false_and], fun h => ?_⟩
  have hl : a.length = b.length := by have := bne_eq_false_iff_eq.1 h; omega
  simp only [h, Bool.not_false, Bool.true_and]
  refine wr1 (l := a) (fun pre rest => eqs rest (b.drop pre.length)) [] a rfl rfl (by omega) ?_ ?_
  · intro F pre e rest hl' h1 h2 h3 hn
    obtain ⟨f, rest2, q1, q2, q3⟩ := drop_len hl hl'
    have he := (ha.2 e (by rw [hl']; simp)).2.1
    rw [List.length_append, List.length_singleton, q2] at hn
    simp only [s_ref06_Same_1, h1, h2, q1, q3, Option.bind_some, cond_true, W.cond, W.ret, eqs, eqt]
    refine ⟨fun h => ?_, fun h => ?_⟩
    · rw [Bool.not_eq_true'] at h
      rw [h]; simp only [Bool.false_and]
    rw [Bool.not_eq_false'] at h
    rw [h]
    simp only [Bool.true_and]
    refine ⟨fun h => by simp only [h, Bool.not_true, Bool.false_and], fun h => ?_⟩
    have hf : e.Fields.length = f.Fields.length := by have := bne_eq_false_iff_eq.1 h; omega
    simp only [h, Bool.not_false, Bool.true_and]
    refine wr1 (l := e.Fields) (fun pre2 r => eqf r (f.Fields.drop pre2.length) && eqs rest rest2) [] e.Fields rfl rfl (by omega) ?_ ?_
    · intro F2 pre2 e2 r2 hl2 k1 k2 k3 hn2
      obtain ⟨f2, rest3, p1, p2, p3⟩ := drop_len hf hl2
      rw [List.length_append, List.length_singleton, p2] at hn2
      simp only [s_ref06_Same_2, h2, q3, k1, k2, k3, p1, p3, Option.bind_some, cond_true, gd_true, W.cond, W.ret, eqf]
      refine ⟨fun h => ?_, fun h => ?_⟩
      · rw [Bool.not_eq_true'] at h
        rw [h]; simp only [Bool.false_and]
      · rw [Bool.not_eq_false'] at h
        rw [h]; simp only [Bool.true_and]; exact hn2
    · intro F2 k1
      simp only [s_ref06_Same_2, h2, h3, k1, Option.bind_some, cond_false, gd_true, eqf, Bool.true_and]
      exact hn.lift
  · intro F h1
    simp only [s_ref06_Same_1, h1, cond_false, W.ret, eqs]

theorem wordO_eq (k : Int) : wordO k = wordB k := by
  unfold wordO s_value_Word wordB
  simp only [Bool.cond_eq_ite, beq_iff_eq]
  repeat' split
  all_goals rfl
theorem wordB_le (k : Int) : (wordB k).length ≤ 4 := by unfold wordB; repeat' split
                                                        all_goals decide
theorem prF_len (l : List schema_Field) (h : ∀ f ∈ l, f.Name.length ≤ 40) : (l.flatMap prF).length ≤ l.length * 46 := by
  induction l with
  | nil => exact Nat.zero_le _
  | cons f r ih =>
    have := ih fun g hg => h g (by simp [hg])
    have := h f (by simp)
    have := wordB_le f.Kind
    simp only [List.flatMap_cons, prF, List.length_append, List.length_cons, List.length_nil]; omega
theorem prT_len (t : schema_Type) (h : t.Name.length ≤ 40 ∧ t.Fields.length ≤ 12 ∧ ∀ f ∈ t.Fields, f.Name.length ≤ 40) : (prT t).length ≤ 600 := by
  have := prF_len t.Fields h.2.2
  have := h.1; have := h.2.1
  simp only [prT, List.length_append, List.length_cons, List.length_nil]; omega
theorem prS_len (l : List schema_Type) (h : ∀ t ∈ l, t.Name.length ≤ 40 ∧ t.Fields.length ≤ 12 ∧ ∀ f ∈ t.Fields, f.Name.length ≤ 40) : (prS l).length ≤ l.length * 600 := by
  induction l with
  | nil => exact Nat.zero_le _
  | cons t r ih =>
    have := ih fun g hg => h g (by simp [hg])
    have := prT_len t (h t (by simp))
    simp only [prS, List.flatMap_cons, List.length_append, List.length_cons] at *; omega
theorem w_schema_Print (l : List schema_Type) (h : small l) : W (fun N => s_schema_Print N l) (· = prS l) := by
  have := prS_len l h.2
  have := h.1
  simp only [s_schema_Print, W.gd, W.ret, Nat.ble_eq, and_true]
  omega
theorem w_ref06_Print (l : List schema_Type) (h : small l) : W (fun N => s_ref06_Print N l) (· = prS l) := by
  have h12 := h.1
  simp only [s_ref06_Print]
  have key := prS_len l h.2
  refine wf2z (l := l) (fun pre s => s = prS pre) [] rfl rfl (by omega) rfl ?_ ?_
  · rintro F pre t rest s hl h1 h2 h3 rfl hn
    have ht := h.2 t (by rw [hl]; simp)
    have hp := prS_len pre (fun x hx => h.2 x (by rw [hl]; simp [hx]))
    have hpl : pre.length ≤ 12 := by have := ltB_iff.1 h1; omega
    have hf := prF_len t.Fields ht.2.2
    simp only [s_ref06_Print_1, h1, h2, Option.bind_some, cond_true, W.gd, Nat.ble_eq]
    refine ⟨by omega, ?_⟩
    refine wf2z (l := t.Fields) (fun pre2 s => s = prS pre ++ t.Name ++ pre2.flatMap prF) [] rfl rfl (by omega) (by simp) ?_ ?_
    · rintro F2 pre2 f rest2 s hl2 k1 k2 k3 rfl hn2
      have hf2 := prF_len pre2 (fun x hx => ht.2.2 x (by rw [hl2]; simp [hx]))
      have hfn := ht.2.2 f (by rw [hl2]; simp)
      have hw := wordB_le f.Kind
      have hpl2 : pre2.length ≤ 12 := by have := ltB_iff.1 k1; omega
      simp only [s_ref06_Print_2, h2, k1, k2, k3, Option.bind_some, cond_true, W.gd, Nat.ble_eq, e_ref04_Word, wordO_eq, true_and, List.length_append, List.length_cons, List.length_nil]
      refine ⟨by omega, by omega, by omega, by omega, hn2 _ ?_⟩
      simp [prF]
    · rintro F2 s k1 rfl
      simp only [s_ref06_Print_2, h2, h3, k1, Option.bind_some, cond_false, W.gd, Nat.ble_eq, true_and, List.length_append]
      refine ⟨by omega, (hn _ ?_).lift⟩
      simp [prS, prT]
  · rintro F s h1 rfl
    simp only [s_ref06_Print_1, h1, cond_false, W.ret]
theorem w_law06_Back (l : List schema_Type) (h : small l) : W (fun N => s_law06_Back N l) fun r => r = l := w_law06_Own l h
end Go.Proofs.YtabploamljmibaaDoor.W
namespace Go.Proofs.YtabploamljmibaaDoor.W
open Go
set_option linter.unusedSimpArgs false
set_option linter.unusedVariables false
set_option maxRecDepth 100000

theorem awake_at (n : Nat) : s_law06_awake (n + 60) = some true := by kernel_rfl
theorem w_awake : W (fun N => s_law06_awake N) fun r => r = true := ⟨true, ⟨60, fun N hN => by
  obtain ⟨n, rfl⟩ : ∃ n, N = n + 60 := ⟨N - 60, by omega⟩
  exact awake_at n⟩, rfl⟩
theorem eqf_refl : ∀ l, eqf l l = true
  | [] => rfl
  | f :: r => by simp [eqf, eqf_refl r]
theorem sme_refl (l : List schema_Type) : sme l l = true := by
  have : ∀ l, eqs l l = true := by
    intro l
    induction l with
    | nil => rfl
    | cons t r ih => simp [eqs, eqt, eqf_refl, ih]
  simp [sme, this]
theorem full_SchemaChecks (l : anon_44) (name : List UInt8) (_ : ok_anon_44 l) (_ : okS name) : W (fun N => s_law06_SchemaChecks N l name) (· = true) := by
  have aw : ∀ {ι : Type} [Lim ι] (N : ι → Nat) [Tends N], W (fun i => (s_law06_awake (N i)).bind fun a => some a) (· = true) := fun N => wid.2 (w_awake.of N)
  simp only [s_law06_SchemaChecks]
  refine W.call (w_law06_Over l.i0) fun b hb => ?_
  simp only [W.cond, ltB_iff, ltB_not]
  refine ⟨fun _ => aw _, fun h => ?_⟩
  have hs := hb (by omega)
  refine W.call (w_law06_Over l.i1) fun b hb => ?_
  simp only [W.cond, ltB_iff, ltB_not]
  refine ⟨fun _ => aw _, fun h => ⟨fun _ => aw _, fun hn => ?_⟩⟩
  have hs1 := hb (by omega)
  have h12 := hs.1
  refine W.call (w_law06_Own l.i0 hs) ?_
  rintro _ rfl
  refine W.call (w_schema_Find l.i0 name hs) ?_
  rintro _ rfl
  refine W.call (w_ref06_Find l.i0 name hs) ?_
  rintro _ rfl
  simp only [BEq.rfl, Bool.not_true, cond_false]
  refine W.call (w_law06_Back [(fnd name l.i0).1] (fnd_small name hs)) ?_
  rintro _ rfl
  refine W.call (w_ref06_Same _ _ (fnd_small name hs)) ?_
  rintro _ rfl
  simp only [sme_refl, Bool.not_true, cond_false]
  refine W.call (w_schema_Check l.i0 hs) ?_
  rintro _ rfl
  refine W.call (w_ref06_Check l.i0 (by omega)) ?_
  rintro _ rfl
  simp only [bne_self_eq_false, cond_false]
  refine W.call (w_schema_Print l.i0 hs) ?_
  rintro _ rfl
  refine W.call (w_ref06_Print l.i0 hs) ?_
  rintro _ rfl
  simp only [BEq.rfl, Bool.not_true, cond_false]
  refine W.call (w_law06_Own l.i1 hs1) ?_
  rintro _ rfl
  refine W.call (w_schema_Same _ _ hs) ?_
  rintro _ rfl
  refine W.call (w_ref06_Same _ _ hs) ?_
  rintro _ rfl
  simp only [BEq.rfl, Bool.not_true, cond_false]
  refine wf1 (l := l.i0) (fun _ => True) [] rfl rfl (by omega) trivial ?_ ?_
  · intro F pre t rest hl h1 h2 h3 _ hn
    have ht := (hs.2 t (by rw [hl]; simp)).2.1
    simp only [s_law06_SchemaChecks_1, h1, h2, h3, Option.bind_some, cond_true, gd_true]
    refine W.call (w_schema_Field t name (by omega)) ?_
    rintro _ rfl
    refine W.call (w_ref06_At t name (by omega)) ?_
    rintro _ rfl
    simp only [bne_self_eq_false, cond_false]
    exact hn trivial
  · intro F h1 _
    simp only [s_law06_SchemaChecks_1, h1, cond_false]
    refine W.call (w_schema_Name name) ?_
    rintro _ rfl
    refine W.call (w_ref06_Name name) ?_
    rintro _ rfl
    simp only [BEq.rfl, cond_true]
    refine W.call (w_schema_Reserved name) ?_
    rintro _ rfl
    refine W.call (w_ref06_Reserved name) ?_
    rintro _ rfl
    simp only [BEq.rfl, cond_true]
    exact aw _
end Go.Proofs.YtabploamljmibaaDoor.W
