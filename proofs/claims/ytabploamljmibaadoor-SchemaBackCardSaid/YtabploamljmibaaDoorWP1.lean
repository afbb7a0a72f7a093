/- What the law is handed, told as what its plain text takes. No premise beyond what each theorem says. -/
import Derived.Test.YtabploamljmibaaDoorWG1
import Derived.Test.YtabploamljmibaaDoorWA3
import Derived.Test.YtabploamljmibaaDoorWA4
set_option linter.all false
set_option linter.unusedSimpArgs false
set_option linter.unusedVariables false
namespace Go.Proofs.YtabploamljmibaaDoor.W
open Go
open Go.Proofs.Tryd
set_option maxRecDepth 1000000
set_option linter.unusedSimpArgs false
set_option linter.unusedVariables false
def ok_schema_Field (x : schema_Field) : Prop := okS x.Name ∧ (inK .u8) x.Kind
def ok_schema_Type (x : schema_Type) : Prop := okS x.Name ∧ (okL ok_schema_Field) x.Fields
theorem d_law06_SchemaBack_t9 {H : Type} (d : DataW H) (cs : List AV) (h : DAv prog 9 d cs) : ∃ x : List UInt8, cs = [.v (.string (bs x))] ∧ okS x := by
  obtain ⟨x, h, h1⟩ := dv_string (by kernel_rfl) h
  exact ⟨x, h, h1⟩
theorem d_law06_SchemaBack_t5 {H : Type} (d : DataW H) (cs : List AV) (h : DAv prog 5 d cs) : ∃ x : Int, cs = [.v (.int .u8 x)] ∧ (inK .u8) x := by
  obtain ⟨x, h, h1, h2⟩ := dv_int (k := .u8) (by kernel_rfl) h
  exact ⟨x, h, h1, h2⟩
theorem d_law06_SchemaBack_t64 {H : Type} (d : DataW H) (cs : List AV) (h : DAv prog 64 d cs) : ∃ x : schema_Field, cs = [.v (.string (bs x.Name)), .v (.int .u8 x.Kind)] ∧ ok_schema_Field x := by
  obtain ⟨_, h⟩ := dv_struct (ts := [9, 5]) (by kernel_rfl) h
  obtain ⟨_, _, _, _, rfl, h0, h⟩ := dvs_cons h
  obtain ⟨_, _, _, _, rfl, h1, h⟩ := dvs_cons h
  obtain rfl := dvs_nil h
  obtain ⟨x0, rfl, k0⟩ := d_law06_SchemaBack_t9 _ _ h0
  obtain ⟨x1, rfl, k1⟩ := d_law06_SchemaBack_t5 _ _ h1
  exact ⟨⟨x0, x1⟩, rfl, ⟨k0, k1⟩⟩
theorem d_law06_SchemaBack_t22 {H : Type} (d : DataW H) (cs : List AV) (h : DAv prog 22 d cs) : ∃ x : List schema_Field, cs = [.sl 2 (List.map eA0 x)] ∧ (okL ok_schema_Field) x := by
  obtain ⟨x, h, h1, h2⟩ := dv_slice (e := 64) (k := 2) eA0 ok_schema_Field (by kernel_rfl) (by kernel_rfl) (fun d cs h => by obtain ⟨x, h1, h2⟩ := d_law06_SchemaBack_t64 d cs h; subst h1; exact ⟨x, mkE_agg (by kernel_rfl), h2⟩) h
  exact ⟨x, h, h1, h2⟩
theorem d_law06_SchemaBack_t24 {H : Type} (d : DataW H) (cs : List AV) (h : DAv prog 24 d cs) : ∃ x : schema_Type, cs = [.v (.string (bs x.Name)), .sl 2 (List.map eA0 x.Fields)] ∧ ok_schema_Type x := by
  obtain ⟨_, h⟩ := dv_struct (ts := [9, 22]) (by kernel_rfl) h
  obtain ⟨_, _, _, _, rfl, h0, h⟩ := dvs_cons h
  obtain ⟨_, _, _, _, rfl, h1, h⟩ := dvs_cons h
  obtain rfl := dvs_nil h
  obtain ⟨x0, rfl, k0⟩ := d_law06_SchemaBack_t9 _ _ h0
  obtain ⟨x1, rfl, k1⟩ := d_law06_SchemaBack_t22 _ _ h1
  exact ⟨⟨x0, x1⟩, rfl, ⟨k0, k1⟩⟩
theorem d_law06_SchemaBack_t27 {H : Type} (d : DataW H) (cs : List AV) (h : DAv prog 27 d cs) : ∃ x : List schema_Type, cs = [.sl 2 (List.map eA1 x)] ∧ (okL ok_schema_Type) x := by
  obtain ⟨x, h, h1, h2⟩ := dv_slice (e := 24) (k := 2) eA1 ok_schema_Type (by kernel_rfl) (by kernel_rfl) (fun d cs h => by obtain ⟨x, h1, h2⟩ := d_law06_SchemaBack_t24 d cs h; subst h1; exact ⟨x, mkE_agg (by kernel_rfl), h2⟩) h
  exact ⟨x, h, h1, h2⟩
theorem d_law06_SchemaBack {H : Type} (ds : List (DataW H)) (xs : List AV) (h : DAvV prog [27, 9] ds xs) :
    ∃ (l : List schema_Type) (s : List UInt8), xs = [.sl 2 (List.map eA1 l), .v (.string (bs s))] ∧ (okL ok_schema_Type) l ∧ okS s := by
  obtain ⟨_, _, _, _, rfl, rfl, h0, h⟩ := dvv_cons h
  obtain ⟨_, _, _, _, rfl, rfl, h1, h⟩ := dvv_cons h
  obtain ⟨rfl, rfl⟩ := dvv_nil h
  obtain ⟨x0, rfl, k0⟩ := d_law06_SchemaBack_t27 _ _ h0
  obtain ⟨x1, rfl, k1⟩ := d_law06_SchemaBack_t9 _ _ h1
  exact ⟨x0, x1, by rw [mkE_one (by kernel_rfl), mkE_one (by kernel_rfl)], k0, k1⟩
end Go.Proofs.YtabploamljmibaaDoor.W
namespace Go.Proofs.YtabploamljmibaaDoor.W
open Go
set_option linter.unusedSimpArgs false
set_option linter.unusedVariables false

theorem wall {α : Type} {f : Nat → Option α} {a : α} (h : ∀ N, f N = some a) : W f (· = a) := ⟨a, ⟨0, fun N _ => h N⟩, rfl⟩
theorem drop_len {α β : Type} {l : List α} {q : List β} (hl : l.length = q.length) {pre rest : List α} {e : α} (h : l = pre ++ e :: rest) : ∃ f rest2, q.drop pre.length = f :: rest2 ∧ q.drop (pre.length + 1) = rest2 ∧ ix q (pre.length : Int) = some f := by
  have hi : pre.length < q.length := by rw [← hl, h]; simp
  exact ⟨q[pre.length], _, List.drop_eq_getElem_cons hi, rfl, by rw [ix_nat']; exact List.getElem?_eq_getElem hi⟩
theorem wid {ι : Type} [Lim ι] {α : Type} {f : ι → Option α} {Q : α → Prop} : W (fun i => (f i).bind fun a => some a) Q ↔ W f Q := by
  have : (fun i => (f i).bind fun a => some a) = f := by funext i; cases f i <;> rfl
  rw [this]
theorem ix_app {α : Type} {l r : List α} {j : Int} {e : α} (h : ix l j = some e) (h0 : 0 ≤ j) : ix (l ++ r) j = some e := by
  obtain ⟨n, rfl⟩ := Int.eq_ofNat_of_zero_le h0
  rw [ix_nat'] at h ⊢
  obtain ⟨hn, _⟩ := List.getElem?_eq_some_iff.1 h
  rw [List.getElem?_append_left hn, h]
end Go.Proofs.YtabploamljmibaaDoor.W
namespace Go.Proofs.YtabploamljmibaaDoor.W
open Go
set_option linter.unusedSimpArgs false
set_option linter.unusedVariables false

def small (l : List schema_Type) : Prop := l.length ≤ 12 ∧ ∀ t ∈ l, t.Name.length ≤ 40 ∧ t.Fields.length ≤ 12 ∧ ∀ f ∈ t.Fields, f.Name.length ≤ 40
theorem w_law06_Over (l : List schema_Type) : W (fun N => s_law06_Over N l) fun r => ¬ 0 < r → small l := by
  simp only [s_law06_Over, W.cond, W.ret, ltB_iff, ltB_not]
  refine ⟨by omega, fun hl => ?_⟩
  refine wf1 (l := l) (fun pre => ∀ t ∈ pre, t.Name.length ≤ 40 ∧ t.Fields.length ≤ 12 ∧ ∀ f ∈ t.Fields, f.Name.length ≤ 40) [] rfl rfl (by omega) (by simp) ?_ ?_
  · intro F pre t rest hl h1 h2 h3 hp hn
    simp only [s_law06_Over_1, h1, h2, W.some, W.cond, W.ret, ltB_iff, ltB_not]
    refine ⟨fun _ => ⟨by omega, fun hn1 => ⟨by omega, fun hn2 => ?_⟩⟩, by simp⟩
    refine wf1 (l := t.Fields) (fun pre => ∀ f ∈ pre, f.Name.length ≤ 40) [] rfl rfl (by omega) (by simp) ?_ ?_
    · intro F' pre' f rest' hl' k1 k2 k3 hp' hn'
      simp only [s_law06_Over_2, h1, h2, k1, k2, k3, W.some, W.cond, W.ret, gd_true, ltB_iff, ltB_not]
      refine ⟨fun _ => ⟨by omega, fun hf => hn' ?_⟩, by simp⟩
      simp only [List.mem_append, List.mem_singleton]
      rintro f (h | rfl)
      · exact hp' f h
      · omega
    · intro F' k1 hp'
      simp only [s_law06_Over_2, h1, h2, h3, k1, W.some, W.cond, W.ret, gd_true]
      refine ⟨by simp, fun _ => (hn ?_).lift⟩
      simp only [List.mem_append, List.mem_singleton]
      rintro t (h | rfl)
      · exact hp t h
      · exact ⟨by omega, by omega, hp'⟩
  · intro F h1 hp
    simp only [s_law06_Over_1, h1, W.some, W.cond, W.ret]
    exact ⟨by simp, fun _ _ => ⟨by omega, hp⟩⟩

theorem W.tt {ι : Type} [Lim ι] {α : Type} {f : ι → Option α} {Q : α → Prop} (h : W f Q) : W f fun _ => True := h.mp fun _ _ => trivial

theorem w_law06_Own (l : List schema_Type) (h : small l) : W (fun N => s_law06_Own N l) fun r => r = l := by
  have h12 := h.1
  refine wf2a (l := l) (fun pre ys => ys = pre) [] rfl rfl (by omega) rfl ?_ ?_
  · rintro F pre t rest ys hl h1 h2 h3 rfl hn
    have ht := (h.2 t (by rw [hl]; simp)).2.1
    have hp : ys.length ≤ 12 := by rw [hl, List.length_append] at h12; omega
    simp only [s_law06_Own_1, h1, h2, W.some, cond_true]
    refine wf3a (l := t.Fields) (fun pre' a b => a = ys ∧ b = pre') [] rfl rfl (by omega) ⟨rfl, rfl⟩ ?_ ?_
    · rintro F' pre' f rest' a b hl' k1 k2 k3 ⟨rfl, rfl⟩ hn'
      have : b.length ≤ 12 := by rw [hl', List.length_append] at ht; omega
      simp only [s_law06_Own_2, h1, h2, k1, k2, k3, W.some, cond_true, W.gd, Nat.ble_eq, true_and]
      exact ⟨by omega, hn' _ _ ⟨rfl, rfl⟩⟩
    · rintro F' a b k1 ⟨rfl, rfl⟩
      simp only [s_law06_Own_2, h1, h2, h3, k1, W.some, cond_false, W.gd, Nat.ble_eq, true_and]
      exact ⟨by omega, (hn _ rfl).lift⟩
  · rintro F ys h1 rfl
    simp only [s_law06_Own_1, h1, cond_false, W.ret]

end Go.Proofs.YtabploamljmibaaDoor.W
namespace Go.Proofs.YtabploamljmibaaDoor.W
open Go
set_option linter.unusedSimpArgs false
set_option linter.unusedVariables false

def cutB (c : UInt8) : List UInt8 → List UInt8 × Option (List UInt8)
  | [] => ([], none)
  | x :: r => if x == c then ([], some r) else (x :: (cutB c r).1, (cutB c r).2)
theorem cutB_none {c : UInt8} : ∀ {s : List UInt8}, (cutB c s).2 = none → c ∉ s ∧ (cutB c s).1 = s
  | [], _ => by simp [cutB]
  | x :: r, h => by
    by_cases hx : (x == c) = true
    · simp [cutB, hx] at h
    · have hx := eq_false_of_ne_true hx
      simp only [cutB, hx, Bool.false_eq_true, if_false] at h ⊢
      obtain ⟨h1, h2⟩ := cutB_none h
      have hne : x ≠ c := by simpa using hx
      exact ⟨by simp [h1, Ne.symm hne], by rw [h2]⟩
theorem cutB_some {c : UInt8} : ∀ {s b : List UInt8}, (cutB c s).2 = some b → s = (cutB c s).1 ++ c :: b ∧ c ∉ (cutB c s).1
  | [], b, h => by simp [cutB] at h
  | x :: r, b, h => by
    by_cases hx : (x == c) = true
    · simp only [cutB, hx, if_true, Option.some.injEq] at h ⊢
      subst h
      exact ⟨by rw [eq_of_beq hx]; rfl, by simp⟩
    · have hx := eq_false_of_ne_true hx
      simp only [cutB, hx, Bool.false_eq_true, if_false] at h ⊢
      obtain ⟨h1, h2⟩ := cutB_some h
      have hne : x ≠ c := by simpa using hx
      exact ⟨by rw [List.cons_append, ← h1], by simp [h2, Ne.symm hne]⟩
theorem cutB_app {c : UInt8} : ∀ {a b : List UInt8}, c ∉ a → cutB c (a ++ c :: b) = (a, some b)
  | [], b, _ => by simp [cutB]
  | x :: a, b, h => by
    have hne : (x == c) = false := by
      simp only [List.mem_cons, not_or] at h
      simpa using Ne.symm h.1
    simp only [List.cons_append, cutB, hne, Bool.false_eq_true, if_false, cutB_app (a := a) (b := b) (c := c) (fun h' => h (List.mem_cons_of_mem _ h'))]
theorem cutB_not {c : UInt8} : ∀ {a : List UInt8}, c ∉ a → cutB c a = (a, none)
  | [], _ => rfl
  | x :: a, h => by
    have hne : (x == c) = false := by
      simp only [List.mem_cons, not_or] at h
      simpa using Ne.symm h.1
    simp only [cutB, hne, Bool.false_eq_true, if_false, cutB_not (a := a) (c := c) (fun h' => h (List.mem_cons_of_mem _ h'))]
theorem indexByte_cut (c : UInt8) : ∀ s : List UInt8, Lib.indexByte s c = match (cutB c s).2 with | none => -1 | some _ => ((cutB c s).1.length : Int)
  | [] => rfl
  | x :: r => by
    have ih := indexByte_cut c r
    by_cases hx : (x == c) = true
    · simp [Lib.indexByte, cutB, hx]
    · have hx := eq_false_of_ne_true hx
      simp only [Lib.indexByte, cutB, hx, Bool.false_eq_true, if_false, ih]
      cases (cutB c r).2 with
      | none => rfl
      | some b =>
        have : ((((cutB c r).1.length : Int) == -1) : Bool) = false := by simp
        simp only [this, Bool.false_eq_true, if_false, List.length_cons]; rfl

def splitB (c : UInt8) : List UInt8 → List (List UInt8)
  | [] => [[]]
  | x :: r => if x == c then [] :: splitB c r else match splitB c r with
    | [] => [[x]]
    | w :: ws => (x :: w) :: ws
theorem splitB_cut (c : UInt8) : ∀ s : List UInt8, splitB c s = match (cutB c s).2 with | none => [(cutB c s).1] | some b => (cutB c s).1 :: splitB c b
  | [] => rfl
  | x :: r => by
    have ih := splitB_cut c r
    by_cases hx : (x == c) = true
    · simp only [splitB, cutB, hx, if_true]
    · have hx := eq_false_of_ne_true hx
      simp only [splitB, cutB, hx, Bool.false_eq_true, if_false]
      rw [ih]
      cases (cutB c r).2 <;> rfl
theorem splitB_ne (c : UInt8) (s : List UInt8) : splitB c s ≠ [] := by
  rw [splitB_cut]; cases (cutB c s).2 <;> simp
theorem splitB_len (c : UInt8) : ∀ s : List UInt8, (splitB c s).length = s.count c + 1
  | [] => rfl
  | x :: r => by
    have ih := splitB_len c r
    by_cases hx : (x == c) = true
    · simp only [splitB, hx, if_true, List.length_cons, ih, List.count_cons]
    · have hx := eq_false_of_ne_true hx
      simp only [splitB, hx, Bool.false_eq_true, if_false, List.count_cons, Nat.add_zero]
      cases h : splitB c r with
      | nil => exact absurd h (splitB_ne c r)
      | cons w ws => rw [h] at ih; simpa using ih
theorem splitB_join (c : UInt8) : ∀ {s e : List UInt8} {ws : List (List UInt8)}, splitB c s = e :: ws → s = e ++ ws.flatMap (fun w => c :: w)
  | [], e, ws, h => by simp [splitB] at h; simp [h.1, h.2]
  | x :: r, e, ws, h => by
    by_cases hx : (x == c) = true
    · simp only [splitB, hx, if_true, List.cons.injEq] at h
      obtain ⟨rfl, h⟩ := h
      obtain rfl := eq_of_beq hx
      cases ws with
      | nil => exact absurd h (splitB_ne _ r)
      | cons w ws =>
        have := splitB_join x h
        simp [this]
    · have hx := eq_false_of_ne_true hx
      simp only [splitB, hx, Bool.false_eq_true, if_false] at h
      cases h2 : splitB c r with
      | nil => exact absurd h2 (splitB_ne c r)
      | cons w ws2 =>
        rw [h2] at h
        simp only [List.cons.injEq] at h
        obtain ⟨rfl, rfl⟩ := h
        have := splitB_join c h2
        simp [this]
theorem splitB_app {c : UInt8} {a b : List UInt8} (h : c ∉ a) : splitB c (a ++ c :: b) = a :: splitB c b := by rw [splitB_cut, cutB_app h]
theorem splitB_not {c : UInt8} {a : List UInt8} (h : c ∉ a) : splitB c a = [a] := by rw [splitB_cut, cutB_not h]
theorem count_cut {c : UInt8} {s b : List UInt8} (h : (cutB c s).2 = some b) : s.count c = b.count c + 1 := by
  have h1 := splitB_len c s
  rw [splitB_cut, h] at h1
  have h2 := splitB_len c b
  simp only [List.length_cons] at h1; omega
theorem take_set {α : Type} : ∀ {l : List α} {i : Nat} {a : α}, i < l.length → (l.set i a).take (i + 1) = l.take i ++ [a]
  | [], i, a, h => by simp at h
  | x :: l, 0, a, h => by simp
  | x :: l, i + 1, a, h => by
    have := take_set (l := l) (i := i) (a := a) (by simpa using h)
    simp [this]

/-- What stands ahead of the first such byte, what behind, and whether there is one. -/
def cutT (c : UInt8) (s : List UInt8) : List UInt8 × List UInt8 × Bool := match (cutB c s).2 with
  | none => (s, [], false)
  | some b => ((cutB c s).1, b, true)
theorem e_Index_v860 (s : List UInt8) (N : Nat) : s_stringslite_Index_v860 N s = some (Lib.indexByte s 10) := by
  unfold s_stringslite_Index_v860
  by_cases h : (([10] : List UInt8) == s) = true
  · obtain rfl := eq_of_beq h
    rfl
  · rw [eq_false_of_ne_true h]; rfl
theorem w_Cut_v860 (s : List UInt8) (hb : s.length ≤ 1000000) : W (fun N => s_strings_Cut_v860 N s) (· = cutT 10 s) := by
  simp only [s_strings_Cut_v860, s_stringslite_Cut_v860, e_Index_v860, Option.bind_some, indexByte_cut, cutT]
  cases h : (cutB 10 s).2 with
  | none =>
    simp only [show leB 0 (-1) = false from rfl, cond_false, Option.bind_some, W.ret]
  | some b =>
    obtain ⟨h1, _⟩ := cutB_some h
    generalize (cutB 10 s).1 = a at h1
    subst h1
    simp only [List.length_append, List.length_cons] at hb
    have e1 : leB 0 (a.length : Int) = true := leB_iff.2 (by omega)
    have e2 : leB (a.length : Int) ((a ++ 10 :: b).length : Int) = true := leB_iff.2 (by simp; omega)
    have e3 : i64b ((a.length : Int) + 1) = true := i64b_eq.2 (by omega)
    have e4 : leB 0 ((a.length : Int) + 1) = true := leB_iff.2 (by omega)
    have e5 : leB ((a.length : Int) + 1) ((a ++ 10 :: b).length : Int) = true := leB_iff.2 (by simp; omega)
    have e6 : List.take (Int.toNat (a.length : Int)) (a ++ 10 :: b) = a := by simp
    have e7 : List.drop (Int.toNat ((a.length : Int) + 1)) (a ++ 10 :: b) = b := by
      rw [show Int.toNat ((a.length : Int) + 1) = a.length + 1 by omega]; simp
    simp only [e1, e2, e3, e4, e5, e6, e7, cond_true, gd_true, Option.bind_some, W.ret]
theorem e_Index_v682 (s : List UInt8) (N : Nat) : s_stringslite_Index_v682 N s = some (Lib.indexByte s 58) := by
  unfold s_stringslite_Index_v682
  by_cases h : (([58] : List UInt8) == s) = true
  · obtain rfl := eq_of_beq h
    rfl
  · rw [eq_false_of_ne_true h]; rfl
theorem w_Cut_v682 (s : List UInt8) (hb : s.length ≤ 1000000) : W (fun N => s_strings_Cut_v682 N s) (· = cutT 58 s) := by
  simp only [s_strings_Cut_v682, s_stringslite_Cut_v682, e_Index_v682, Option.bind_some, indexByte_cut, cutT]
  cases h : (cutB 58 s).2 with
  | none =>
    simp only [show leB 0 (-1) = false from rfl, cond_false, Option.bind_some, W.ret]
  | some b =>
    obtain ⟨h1, _⟩ := cutB_some h
    generalize (cutB 58 s).1 = a at h1
    subst h1
    simp only [List.length_append, List.length_cons] at hb
    have e1 : leB 0 (a.length : Int) = true := leB_iff.2 (by omega)
    have e2 : leB (a.length : Int) ((a ++ 58 :: b).length : Int) = true := leB_iff.2 (by simp; omega)
    have e3 : i64b ((a.length : Int) + 1) = true := i64b_eq.2 (by omega)
    have e4 : leB 0 ((a.length : Int) + 1) = true := leB_iff.2 (by omega)
    have e5 : leB ((a.length : Int) + 1) ((a ++ 58 :: b).length : Int) = true := leB_iff.2 (by simp; omega)
    have e6 : List.take (Int.toNat (a.length : Int)) (a ++ 58 :: b) = a := by simp
    have e7 : List.drop (Int.toNat ((a.length : Int) + 1)) (a ++ 58 :: b) = b := by
      rw [show Int.toNat ((a.length : Int) + 1) = a.length + 1 by omega]; simp
    simp only [e1, e2, e3, e4, e5, e6, e7, cond_true, gd_true, Option.bind_some, W.ret]
theorem e_Index_v724 (s : List UInt8) (N : Nat) : s_stringslite_Index_v724 N s = some (Lib.indexByte s 32) := by
  unfold s_stringslite_Index_v724
  by_cases h : (([32] : List UInt8) == s) = true
  · obtain rfl := eq_of_beq h
    rfl
  · rw [eq_false_of_ne_true h]; rfl
theorem w_Split (s : List UInt8) (hb : s.length ≤ 1000000) : W (fun N => s_strings_Split_v724 N s) (· = splitB 32 s) := by
  simp only [s_strings_Split_v724]
  refine wid.2 ?_
  have hc : s.count 32 ≤ s.length := List.count_le_length
  have e0 : min (((s.count 32 : Nat) : Int) + 1) ((s.length : Int) + 1) = ((s.count 32 : Nat) : Int) + 1 := by omega
  have ec : ∀ N, s_strings_Count_v724 N s = some ((s.count 32 : Nat) : Int) := fun _ => rfl
  simp only [s_strings_genSplit_v997, show ((-1 : Int) == 0) = false from rfl, show ltB (-1) 0 = true from rfl, cond_true, cond_false, ec, Option.bind_some, e0, W.gd, i64b_eq, leB_iff]
  refine ⟨by omega, by omega, by omega, by omega, by omega, ?_⟩
  have e1 : ((s.count 32 : Nat) : Int) + 1 - 1 = ((s.count 32 : Nat) : Int) := by omega
  rw [e1]
  generalize hn : s.count 32 = n at *
  refine W.lp3 (P := fun (s2 : List UInt8) (i : Int) (ys : List (List UInt8)) => ∃ j : Nat, i = (j : Int) ∧ ys.length = n + 1 ∧ j + s2.count 32 = n ∧ ys.take j ++ splitB 32 s2 = splitB 32 s ∧ s2.length ≤ 1000000) (m := fun _ (i : Int) _ => ((n : Int) - i).toNat) ?_ ?_
  · exact ⟨0, rfl, by simp, by omega, by simp, hb⟩
  · rintro F s2 i ys ⟨j, rfl, h1, h2, h3, h4⟩ hnx
    have hj : j < ys.length := by omega
    have hix : ∃ x, ix ys (j : Int) = some x := by rw [ix_nat']; exact ⟨ys[j], by simp [hj]⟩
    obtain ⟨x, hx⟩ := hix
    have hend : ∀ a : List UInt8, List.take (Int.toNat ((j : Int) + 1)) (ys.set (Int.toNat (j : Int)) a) = ys.take j ++ [a] := fun a => by
      rw [show Int.toNat ((j : Int) + 1) = j + 1 by omega, show Int.toNat (j : Int) = j by omega]; exact take_set hj
    simp only [s_strings_genSplit_v997_1, s_strings_Index_v724, e_Index_v724, Option.bind_some, hx, W.cond, W.gd, W.ret, hend, ltB_iff, ltB_not, i64b_eq, leB_iff]
    rw [splitB_cut] at h3
    rw [indexByte_cut]
    cases h : (cutB 32 s2).2 with
    | none =>
      obtain ⟨_, q2⟩ := cutB_none h
      simp only [h, q2] at h3
      have hl : ∀ a : List UInt8, ((List.set ys (Int.toNat (j : Int)) a).length : Int) = (n : Int) + 1 := fun a => by simp; omega
      simp only [h3, hl]
      refine ⟨fun _ => ⟨fun _ => ⟨by omega, by omega, by omega, trivial⟩, fun hh => by omega⟩, fun _ => ⟨by omega, by omega, by omega, trivial⟩⟩
    | some b =>
      obtain ⟨q1, q2⟩ := cutB_some h
      have q3 := count_cut h
      generalize (cutB 32 s2).1 = a at *
      simp only [h] at h3
      have hlen : s2.length = a.length + (b.length + 1) := by rw [q1]; simp
      have hl : ((List.set ys (Int.toNat (j : Int)) s2).length : Int) = (n : Int) + 1 := by simp; omega
      dsimp only
      refine ⟨fun _ => ⟨fun hh => by omega, fun _ => ?_⟩, fun hh => by omega⟩
      have t1 : List.take (Int.toNat ((a.length : Int) + 0)) s2 = a := by rw [q1, show Int.toNat ((a.length : Int) + 0) = a.length by omega]; simp
      have t2 : List.drop (Int.toNat ((a.length : Int) + 1)) s2 = b := by rw [q1, show Int.toNat ((a.length : Int) + 1) = a.length + 1 by omega]; simp
      rw [t1, t2]
      refine ⟨by omega, by omega, by omega, by omega, by omega, by omega, by omega, hnx _ _ _ ⟨j + 1, by omega, by simp; omega, by omega, ?_, by omega⟩ (by omega)⟩
      rw [show Int.toNat (j : Int) = j by omega, take_set hj, List.append_assoc]
      exact h3
end Go.Proofs.YtabploamljmibaaDoor.W
namespace Go.Proofs.YtabploamljmibaaDoor.W
open Go
set_option linter.unusedSimpArgs false
set_option linter.unusedVariables false

/-- Not too great for the machine. -/
def sized (l : List schema_Type) : Prop := l.length ≤ 100000 ∧ ∀ t ∈ l, t.Fields.length ≤ 100000
theorem small_sized {l : List schema_Type} (h : small l) : sized l := ⟨by have := h.1; omega, fun t ht => by have := (h.2 t ht).2.1; omega⟩
def resl : List (List UInt8) := [[119, 105, 116, 104, 105, 110], [98, 121], [97, 110, 100], [111, 114], [110, 111, 116], [97, 110, 121], [110, 101, 120, 116], [115, 116, 114, 105, 99, 116], [116, 114, 117, 101], [102, 97, 108, 115, 101]]
def resv (s : List UInt8) : Bool := resl.any (s == ·)
theorem w_schema_Reserved (s : List UInt8) : W (fun N => s_schema_Reserved N s) (· = resv s) := by
  refine wall fun N => ?_
  have e2 : ∀ (b r : Bool), (bif b then some true else some r) = some (b || r) := by intro b r; cases b <;> rfl
  unfold s_schema_Reserved
  have e3 : ∀ (b r r' : Bool), (bif b then some (b || r') else some r) = some (b || r) := by intro b r r'; cases b <;> rfl
  have e4 : ∀ (b r : Bool), (bif b then some b else some r) = some (b || r) := by intro b r; cases b <;> rfl
  simp only [resv, resl, List.any_cons, List.any_nil, e2, e3, e4, Bool.or_false]
def ltr (c : UInt8) : Bool := leB 97 (c.toNat : Int) && leB (c.toNat : Int) 122
def tl (c : UInt8) : Bool := ltr c || (leB 48 (c.toNat : Int) && leB (c.toNat : Int) 57) || ((c.toNat : Int) == 95)
def nm : List UInt8 → Bool
  | [] => false
  | c :: t => !(ltB 12 ((c :: t).length : Int)) && (ltr c && (!resv (c :: t) && t.all tl))
theorem e_schema_letter (c : UInt8) (N : Nat) : s_schema_letter N (c.toNat : Int) = some (ltr c) := by
  simp only [s_schema_letter, ltr]; cases leB 97 (c.toNat : Int) <;> rfl
theorem e_schema_tail (c : UInt8) (N : Nat) : s_schema_tail N (c.toNat : Int) = some (tl c) := by
  simp only [s_schema_tail, e_schema_letter, Option.bind_some, tl]
  cases ltr c <;> cases leB 48 (c.toNat : Int) <;> cases leB (c.toNat : Int) 57 <;> rfl
theorem w_schema_Name (s : List UInt8) : W (fun N => s_schema_Name N s) (· = nm s) := by
  cases s with
  | nil => exact wall fun _ => rfl
  | cons c t =>
    simp only [s_schema_Name, show ((c :: t) == ([] : List UInt8)) = false from rfl, cond_false, W.cond, W.ret, show ix (c :: t) 0 = some c from rfl, Option.bind_some, e_schema_letter]
    refine ⟨fun h => by simp only [nm, h, Bool.not_true, Bool.false_and], fun h => ⟨fun h' => ?_, fun h' => ?_⟩⟩
    · have h' : ltr c = false := by simpa using h'
      simp only [nm, h', Bool.false_and, Bool.and_false]
    have h' : ltr c = true := by simpa using h'
    simp only [nm, h, h', Bool.not_false, Bool.true_and]
    refine W.call (w_schema_Reserved _) ?_
    rintro _ rfl
    simp only [W.cond, W.ret]
    refine ⟨fun h2 => by simp only [h2, Bool.not_true, Bool.false_and], fun h2 => ?_⟩
    simp only [h2, Bool.not_false, Bool.true_and]
    have hb := ltB_not.1 h
    refine wr1 (l := c :: t) (fun _ rest => rest.all tl) [c] t rfl rfl (by omega) ?_ ?_
    · intro F pre e rest hl h1 h2 h3 hn
      simp only [s_schema_Name_1, h1, h2, h3, Option.bind_some, cond_true, e_schema_tail, W.cond, W.ret, gd_true, List.all_cons]
      refine ⟨fun h => ?_, fun h => ?_⟩
      · have h : tl e = false := by simpa using h
        simp only [h, Bool.false_and]
      · have h : tl e = true := by simpa using h
        simp only [h, Bool.true_and]; exact hn
    · intro F h1
      simp only [s_schema_Name_1, h1, cond_false, W.ret, List.all_nil]
def wordO (k : Int) : List UInt8 := (s_value_Word 0 k).getD []
theorem e_value_Word (k : Int) (N : Nat) : s_value_Word N k = some (wordO k) := by
  unfold wordO s_value_Word
  simp only [Bool.cond_eq_ite]
  repeat' split
  all_goals rfl
def fld (name : List UInt8) : Nat → List schema_Field → Int × Int
  | _, [] => (-1, 0)
  | i, f :: r => if f.Name == name then ((i : Int), f.Kind) else fld name (i + 1) r
theorem w_schema_Field (t : schema_Type) (name : List UInt8) (hb : t.Fields.length ≤ 1000) : W (fun N => s_schema_Type_Field N t name) (· = fld name 0 t.Fields) := by
  refine wr1 (l := t.Fields) (fun pre rest => fld name pre.length rest) [] t.Fields rfl rfl (by omega) ?_ ?_
  · intro F pre e rest hl h1 h2 h3 hn
    rw [List.length_append, List.length_singleton] at hn
    simp only [s_schema_Type_Field_1, h1, h2, h3, Option.bind_some, cond_true, W.cond, W.ret, gd_true, fld]
    exact ⟨fun h => by simp only [h, if_true], fun h => by simp only [h, Bool.false_eq_true, if_false]; exact hn⟩
  · intro F h1
    simp only [s_schema_Type_Field_1, h1, cond_false, W.ret, fld]
theorem fld_at (e : schema_Field) (rest : List schema_Field) : ∀ (pre : List schema_Field) (j : Nat),
    ((fld e.Name j (pre ++ e :: rest)).1 != ((j + pre.length : Nat) : Int)) = pre.any (fun f => f.Name == e.Name) ∧ (j : Int) ≤ (fld e.Name j (pre ++ e :: rest)).1
  | [], j => by simp [fld]
  | f :: pre, j => by
    obtain ⟨h1, h2⟩ := fld_at e rest pre (j + 1)
    by_cases h : (f.Name == e.Name) = true
    · simp only [List.cons_append, fld, h, if_true, List.any_cons, Bool.true_or, Int.le_refl, and_true, bne_iff_ne, ne_eq, List.length_cons]
      omega
    · have h := eq_false_of_ne_true h
      simp only [List.cons_append, fld, h, List.any_cons, Bool.false_or, List.length_cons, Bool.false_eq_true, if_false]
      refine ⟨?_, by omega⟩
      rw [← h1]
      congr 2
      omega
def cf : List schema_Field → List schema_Field → Int
  | _, [] => 0
  | pre, f :: r => if nm f.Name then (if wordO f.Kind == [] then 11 else if pre.any (fun g => g.Name == f.Name) then 21 else cf (pre ++ [f]) r) else 4
def one (t : schema_Type) : Int := if nm t.Name then (if ltB 6 (t.Fields.length : Int) then 5 else cf [] t.Fields) else 4
theorem w_schema_check (t : schema_Type) : W (fun N => s_schema_Type_check N t) (· = one t) := by
  simp only [s_schema_Type_check, one]
  refine W.call (w_schema_Name _) ?_
  rintro _ rfl
  simp only [W.cond, W.ret]
  refine ⟨fun h => by have h : nm t.Name = false := by simpa using h
                      simp only [h, Bool.false_eq_true, if_false], fun h => ?_⟩
  have h : nm t.Name = true := by simpa using h
  simp only [h, if_true]
  refine ⟨fun h2 => by simp only [h2, if_true], fun h2 => ?_⟩
  have hb := ltB_not.1 h2
  simp only [h2, Bool.false_eq_true, if_false]
  refine wr1 (l := t.Fields) cf [] t.Fields rfl rfl (by omega) ?_ ?_
  · intro F pre e rest hl h1 h2 h3 hn
    simp only [s_schema_Type_check_1, h1, h2, h3, Option.bind_some, cond_true, gd_true, cf]
    refine W.call (w_schema_Field t e.Name (by omega)) ?_
    rintro _ rfl
    refine W.call (w_schema_Name _) ?_
    rintro _ rfl
    have h5 := (fld_at e rest pre 0).1
    rw [← hl, Nat.zero_add] at h5
    simp only [W.cond, W.ret, e_value_Word, Option.bind_some, h5]
    refine ⟨fun h => by have h : nm e.Name = false := by simpa using h
                        simp only [h, Bool.false_eq_true, if_false], fun h => ?_⟩
    have h : nm e.Name = true := by simpa using h
    simp only [h, if_true]
    refine ⟨fun h => by simp only [h, if_true], fun h => ⟨fun h' => by simp only [h, h', Bool.false_eq_true, if_false, if_true], fun h' => ?_⟩⟩
    simp only [h, h', Bool.false_eq_true, if_false]; exact hn
  · intro F h1
    simp only [s_schema_Type_check_1, h1, cond_false, W.ret, cf]
def fnd (name : List UInt8) : List schema_Type → schema_Type × Bool
  | [] => (schema_Type.mk [] [], false)
  | t :: r => if t.Name == name then (t, true) else fnd name r
theorem fnd_any (name : List UInt8) : ∀ l, (fnd name l).2 = l.any fun t => t.Name == name
  | [] => rfl
  | t :: r => by
    by_cases h : (t.Name == name) = true
    · simp [fnd, h]
    · have h := eq_false_of_ne_true h
      simp [fnd, h, fnd_any name r]
theorem w_schema_Find (l : List schema_Type) (name : List UInt8) (hb : sized l) : W (fun N => s_schema_Find N l name) (· = fnd name l) := by
  have h12 := hb.1
  refine wr1 (l := l) (fun _ rest => fnd name rest) [] l rfl rfl (by omega) ?_ ?_
  · intro F pre e rest hl h1 h2 h3 hn
    have he := (hb.2 e (by rw [hl]; simp))
    simp only [s_schema_Find_1, h1, h2, h3, Option.bind_some, cond_true, W.cond, gd_true, fnd]
    refine ⟨fun h => ?_, fun h => by simp only [h, Bool.false_eq_true, if_false]; exact hn⟩
    rw [W.clone (by omega)]
    obtain rfl := eq_of_beq h
    simp only [BEq.rfl, if_true]
    exact W.ret.2 rfl
  · intro F h1
    simp only [s_schema_Find_1, h1, cond_false, W.ret, fnd]
def ck : List schema_Type → List schema_Type → Int
  | _, [] => 0
  | pre, t :: r => if one t != 0 then one t else if pre.any (fun g => g.Name == t.Name) then 21 else ck (pre ++ [t]) r
def chk (l : List schema_Type) : Int := if ltB 8 (l.length : Int) then 5 else ck [] l
theorem sized_pre {l pre rest : List schema_Type} (h : sized l) (hl : l = pre ++ rest) : sized pre := ⟨by have := h.1; rw [hl, List.length_append] at this; omega, fun t ht => h.2 t (by rw [hl]; simp [ht])⟩
theorem w_schema_Check (l : List schema_Type) (hs : sized l) : W (fun N => s_schema_Check N l) (· = chk l) := by
  have h12 := hs.1
  simp only [s_schema_Check, chk, W.cond, W.ret]
  refine ⟨fun h => by simp only [h, if_true], fun h => ?_⟩
  simp only [h, Bool.false_eq_true, if_false]
  refine wr1 (l := l) ck [] l rfl rfl (by omega) ?_ ?_
  · intro F pre e rest hl h1 h2 h3 hn
    have h4 := ltB_iff.1 h1
    simp only [s_schema_Check_1, h1, h2, h3, Option.bind_some, cond_true, gd_true, ck]
    refine W.call (w_schema_check e) ?_
    rintro _ rfl
    simp only [W.cond, W.ret, W.gd, leB_iff]
    refine ⟨fun h => by simp only [h, if_true], fun h => ⟨by omega, by omega, ?_⟩⟩
    have ht : List.take ((pre.length : Int)).toNat l = pre := by rw [hl]; simp
    rw [ht]
    simp only [h, Bool.false_eq_true, if_false]
    refine W.call (w_schema_Find _ e.Name (sized_pre hs hl)) ?_
    rintro _ rfl
    simp only [W.cond, W.ret, fnd_any]
    exact ⟨fun h => by simp only [h, if_true], fun h => by simp only [h, Bool.false_eq_true, if_false]; exact hn⟩
  · intro F h1
    simp only [s_schema_Check_1, h1, cond_false, W.ret, ck]
def eqf : List schema_Field → List schema_Field → Bool
  | a :: r, b :: q => ((a.Name == b.Name) && (a.Kind == b.Kind)) && eqf r q
  | _, _ => true
def eqt (x y : schema_Type) : Bool := (x.Name == y.Name) && (!((x.Fields.length : Int) != (y.Fields.length : Int)) && eqf x.Fields y.Fields)
def eqs : List schema_Type → List schema_Type → Bool
  | x :: r, y :: q => eqt x y && eqs r q
  | _, _ => true
def sme (a b : List schema_Type) : Bool := !((a.length : Int) != (b.length : Int)) && eqs a b
theorem w_Equal (a b : List schema_Field) (hb : a.length ≤ 100000) : W (fun N => s_slices_Equal_schema_Field N a b) (· = (!((a.length : Int) != (b.length : Int)) && eqf a b)) := by
  simp only [s_slices_Equal_schema_Field, W.cond, W.ret]
  refine ⟨fun h => by simp only [h, Bool.not_true, Bool.false_and], fun h => ?_⟩
  have hl : a.length = b.length := by have := bne_eq_false_iff_eq.1 h; omega
  simp only [h, Bool.not_false, Bool.true_and]
  refine wr1 (l := a) (fun pre rest => eqf rest (b.drop pre.length)) [] a rfl rfl (by omega) ?_ ?_
  · intro F pre e rest hl' h1 h2 h3 hn
    obtain ⟨f, rest2, q1, q2, q3⟩ := drop_len hl hl'
    rw [List.length_append, List.length_singleton, q2] at hn
    simp only [s_slices_Equal_schema_Field_1, h1, h2, h3, q1, q3, Option.bind_some, cond_true, gd_true, W.cond, W.ret, eqf]
    refine ⟨fun h => ?_, fun h => ?_⟩
    · rw [Bool.not_eq_true'] at h
      rw [h, Bool.false_and]
    · rw [Bool.not_eq_false'] at h
      rw [h]; simp only [Bool.true_and]; exact hn
  · intro F h1
    simp only [s_slices_Equal_schema_Field_1, h1, cond_false, W.ret, eqf]
theorem w_schema_Same (a b : List schema_Type) (ha : sized a) : W (fun N => s_schema_Same N a b) (· = sme a b) := by
  have h12 := ha.1
  have key : W (fun N => s_slices_EqualFunc_schema_Type_v029 N a b) (· = sme a b) := by
    simp only [s_slices_EqualFunc_schema_Type_v029, W.cond, W.ret, sme]
    refine ⟨fun h => by simp only [h, Bool.not_true, Bool.false_and], fun h => ?_⟩
    have hl : a.length = b.length := by have := bne_eq_false_iff_eq.1 h; omega
    simp only [h, Bool.not_false, Bool.true_and]
    refine wr1 (l := a) (fun pre rest => eqs rest (b.drop pre.length)) [] a rfl rfl (by omega) ?_ ?_
    · intro F pre e rest hl' h1 h2 h3 hn
      obtain ⟨f, rest2, q1, q2, q3⟩ := drop_len hl hl'
      have he := (ha.2 e (by rw [hl']; simp))
      have ht : W (fun N => s_schema_Same_L1 N e f) (· = eqt e f) := by
        simp only [s_schema_Same_L1, W.cond, W.ret, eqt]
        refine ⟨fun h => ?_, fun h => by simp only [h, Bool.false_and]⟩
        simp only [h, Bool.true_and]
        exact wid.2 (w_Equal e.Fields f.Fields (by omega))
      rw [List.length_append, List.length_singleton, q2] at hn
      simp only [s_slices_EqualFunc_schema_Type_v029_1, h1, h2, h3, q1, q3, Option.bind_some, cond_true, gd_true, eqs]
      refine W.call ht ?_
      rintro _ rfl
      simp only [W.cond, W.ret]
      refine ⟨fun h => ?_, fun h => ?_⟩
      · rw [Bool.not_eq_true'] at h
        rw [h, Bool.false_and]
      · rw [Bool.not_eq_false'] at h
        rw [h]; simp only [Bool.true_and]; exact hn
    · intro F h1
      simp only [s_slices_EqualFunc_schema_Type_v029_1, h1, cond_false, W.ret, eqs]
  exact wid.2 key
theorem wordO_eq (k : Int) : wordO k = wordB k := by
  unfold wordO s_value_Word wordB
  simp only [Bool.cond_eq_ite, beq_iff_eq]
  repeat' split
  all_goals rfl
theorem wordB_le (k : Int) : (wordB k).length ≤ 4 := by unfold wordB; repeat' split
                                                        all_goals decide
theorem prF_len (l : List schema_Field) (h : ∀ f ∈ l, f.Name.length ≤ 40) : (l.flatMap prF).length ≤ l.length * 46 := by
  induction l with
  | nil => exact Nat.zero_le _
  | cons f r ih =>
    have := ih fun g hg => h g (by simp [hg])
    have := h f (by simp)
    have := wordB_le f.Kind
    simp only [List.flatMap_cons, prF, List.length_append, List.length_cons, List.length_nil]; omega
theorem prT_len (t : schema_Type) (h : t.Name.length ≤ 40 ∧ t.Fields.length ≤ 12 ∧ ∀ f ∈ t.Fields, f.Name.length ≤ 40) : (prT t).length ≤ 600 := by
  have := prF_len t.Fields h.2.2
  have := h.1; have := h.2.1
  simp only [prT, List.length_append, List.length_cons, List.length_nil]; omega
theorem prS_len (l : List schema_Type) (h : ∀ t ∈ l, t.Name.length ≤ 40 ∧ t.Fields.length ≤ 12 ∧ ∀ f ∈ t.Fields, f.Name.length ≤ 40) : (prS l).length ≤ l.length * 600 := by
  induction l with
  | nil => exact Nat.zero_le _
  | cons t r ih =>
    have := ih fun g hg => h g (by simp [hg])
    have := prT_len t (h t (by simp))
    simp only [prS, List.flatMap_cons, List.length_append, List.length_cons] at *; omega
theorem w_schema_Print (l : List schema_Type) (h : (prS l).length ≤ 100000) : W (fun N => s_schema_Print N l) (· = prS l) := by
  simp only [s_schema_Print, W.gd, W.ret, Nat.ble_eq, and_true]
  omega
end Go.Proofs.YtabploamljmibaaDoor.W
namespace Go.Proofs.YtabploamljmibaaDoor.W
open Go
set_option linter.unusedSimpArgs false
set_option linter.unusedVariables false

theorem prS_lb : ∀ l : List schema_Type, l.length ≤ (prS l).length ∧ ∀ t ∈ l, t.Fields.length ≤ (prS l).length
  | [] => by simp
  | t :: l => by
    obtain ⟨h1, h2⟩ := prS_lb l
    have hf : ∀ q : List schema_Field, q.length ≤ (q.flatMap prF).length := by
      intro q
      induction q with
      | nil => simp
      | cons f q ih => simp only [List.flatMap_cons, prF, List.length_append, List.length_cons, List.length_nil]; omega
    have := hf t.Fields
    have e : (prS (t :: l)).length = t.Name.length + (t.Fields.flatMap prF).length + 1 + (prS l).length := by
      simp only [prS, List.flatMap_cons, prT, List.length_append, List.length_cons, List.length_nil]
    refine ⟨by rw [e, List.length_cons]; omega, fun x hx => ?_⟩
    rcases List.mem_cons.1 hx with rfl | hx
    · rw [e]; omega
    · have := h2 x hx; rw [e]; omega
theorem w_kindOf (w : List UInt8) : W (fun N => s_schema_kindOf N w) fun r => (r = 0 ∧ ∀ j, 1 ≤ j → j ≤ 4 → wordB j ≠ w) ∨ (1 ≤ r ∧ r ≤ 4 ∧ wordB r = w) := by
  simp only [s_schema_kindOf]
  refine W.lp1 (P := fun k : Int => 1 ≤ k ∧ k ≤ 5 ∧ ∀ j, 1 ≤ j → j < k → wordB j ≠ w) (m := fun k : Int => (5 - k).toNat) ⟨by omega, by omega, by omega⟩ ?_
  rintro F k ⟨h1, h2, h3⟩ hn
  simp only [s_schema_kindOf_1, W.cond, W.ret, e_value_Word, Option.bind_some, wordO_eq, leB_iff, leB_not]
  refine ⟨fun h4 => ⟨fun h => .inr ⟨h1, h4, by simpa using h⟩, fun h => ?_⟩, fun h4 => .inl ⟨trivial, fun j q1 q2 => h3 j q1 (by omega)⟩⟩
  have hw : IntKind.u8.wrap (k + 1) = k + 1 := by
    have : k = 1 ∨ k = 2 ∨ k = 3 ∨ k = 4 := by omega
    rcases this with rfl | rfl | rfl | rfl <;> decide
  rw [hw]
  refine hn _ ⟨by omega, by omega, fun j q1 q2 => ?_⟩ (by omega)
  by_cases hj : j = k
  · subst hj; simpa using h
  · exact h3 j q1 (by omega)

theorem cutT_true {c : UInt8} {s : List UInt8} (h : (cutT c s).2.2 = true) : s = (cutT c s).1 ++ c :: (cutT c s).2.1 := by
  unfold cutT at h ⊢
  cases h2 : (cutB c s).2 with
  | none => rw [h2] at h; simp at h
  | some b => exact (cutB_some h2).1
theorem cutT_len (c : UInt8) (s : List UInt8) : (cutT c s).1.length ≤ s.length := by
  unfold cutT
  cases h2 : (cutB c s).2 with
  | none => exact Nat.le_refl _
  | some b =>
    have := congrArg List.length (cutB_some h2).1
    simp only [List.length_append, List.length_cons] at this
    show (cutB c s).1.length ≤ _
    omega
theorem cutT_app {c : UInt8} {a b : List UInt8} (h : c ∉ a) : cutT c (a ++ c :: b) = (a, b, true) := by
  unfold cutT; rw [cutB_app h]

theorem w_Parse1 (s : List UInt8) (hb : s.length ≤ 10000) : W (fun N => s_schema_Parse N s) fun r => (r.2 = 0 → prS r.1 = s ∧ chk r.1 = 0) ∧ (r.2 ≠ 0 → r.1 = []) := by
  simp only [s_schema_Parse]
  refine W.lp2 (P := fun (s2 : List UInt8) (ys : List schema_Type) => prS ys ++ s2 = s) (m := fun s2 _ => s2.length) (by simp [prS]) ?_
  intro F s2 ys hp hn
  have hlen : (prS ys).length + s2.length = s.length := by rw [← hp, List.length_append]
  obtain ⟨hy1, hy2⟩ := prS_lb ys
  simp only [s_schema_Parse_1, W.cond]
  refine ⟨fun _ => ?_, fun h => ?_⟩
  · refine W.call (w_Cut_v860 s2 (by omega)) ?_
    rintro _ rfl
    have hcl := cutT_len 10 s2
    refine W.call (w_Split (cutT 10 s2).1 (by omega)) ?_
    rintro _ rfl
    have hsl := splitB_len 32 (cutT 10 s2).1
    have hcount : (cutT 10 s2).1.count 32 ≤ (cutT 10 s2).1.length := List.count_le_length
    cases hsp : splitB 32 (cutT 10 s2).1 with
    | nil => exact absurd hsp (splitB_ne _ _)
    | cons e ws =>
      have hj := splitB_join 32 hsp
      rw [hsp, List.length_cons] at hsl
      have hjl := congrArg List.length hj
      rw [List.length_append] at hjl
      have e1 : leB 1 (((e :: ws).length : Nat) : Int) = true := leB_iff.2 (by simp; omega)
      simp only [show ix (e :: ws) 0 = some e from rfl, Option.bind_some, e1, gd_true, show List.drop 1 (e :: ws) = ws from rfl]
      refine wf3a (l := ws) (fun pre a b => a = ys ∧ b.flatMap prF = pre.flatMap (fun w => 32 :: w) ∧ b.length = pre.length) [] rfl rfl (by omega) ⟨rfl, rfl, rfl⟩ ?_ ?_
      · rintro F2 pre w rest a b hl h1 h2 h3 ⟨rfl, hq, hbl⟩ hn2
        have hwl : w.length ≤ 10000 ∧ pre.length ≤ 10001 := by
          have : (ws.flatMap fun w => 32 :: w).length = (pre.flatMap fun w => (32 : UInt8) :: w).length + (w.length + 1 + (rest.flatMap fun w => (32 : UInt8) :: w).length) := by
            rw [hl]; simp only [List.flatMap_append, List.flatMap_cons, List.length_append, List.length_cons]
          have hpl : pre.length ≤ ws.length := by rw [hl]; simp
          omega
        simp only [s_schema_Parse_2, h1, h2, Option.bind_some, cond_true]
        refine W.call (w_Cut_v682 w (by omega)) ?_
        rintro _ rfl
        refine W.call (w_kindOf _) fun r hr => ?_
        simp only [W.cond, W.ret, W.gd, h3, true_and, Nat.ble_eq]
        refine ⟨fun _ => ⟨fun h => absurd h (by decide), fun _ => trivial⟩, fun hc => ⟨fun _ => ⟨fun h => absurd h (by decide), fun _ => trivial⟩, fun hk => ⟨by omega, hn2 _ _ ⟨rfl, ?_, by simp [hbl]⟩⟩⟩⟩
        have hc : (cutT 58 w).2.2 = true := by simpa using hc
        have hw := cutT_true hc
        have hk : r ≠ 0 := by simpa using hk
        have hr : wordB r = (cutT 58 w).2.1 := by
          rcases hr with ⟨h, _⟩ | ⟨_, _, h⟩
          · exact absurd h hk
          · exact h
        rw [List.flatMap_append, List.flatMap_append, hq]
        congr 1
        simp only [List.flatMap_cons, List.flatMap_nil, List.append_nil, prF, hr]
        conv => rhs; rw [hw]
        simp
      · rintro F2 a b h1 ⟨rfl, hq, hbl⟩
        simp only [s_schema_Parse_2, h1, cond_false, W.cond, W.ret, W.gd, Nat.ble_eq]
        refine ⟨fun _ => ⟨fun h => absurd h (by decide), fun _ => trivial⟩, fun hc => ⟨by omega, ?_⟩⟩
        have hc : (cutT 10 s2).2.2 = true := by simpa using hc
        have hs2 := cutT_true hc
        refine (hn _ _ ?_ ?_).lift
        · rw [← hp]
          conv => rhs; rw [hs2, hj]
          simp [prS, prT, hq]
        · have := congrArg List.length hs2
          simp only [List.length_append, List.length_cons] at this
          omega
  · have hs2 : s2 = [] := by simpa using h
    subst hs2
    rw [List.append_nil] at hp
    refine W.call (w_schema_Check ys ⟨by omega, fun t ht => by have := hy2 t ht; omega⟩) ?_
    rintro _ rfl
    simp only [W.cond, W.ret]
    refine ⟨fun h => ⟨fun h' => absurd h' (by simpa using h), fun _ => trivial⟩, fun h => ⟨fun _ => ⟨hp, by simpa using h⟩, fun h' => absurd rfl h'⟩⟩

theorem tl_no {c : UInt8} (h : tl c = true) : c ≠ 10 ∧ c ≠ 32 ∧ c ≠ 58 :=
  ⟨fun e => by subst e; exact absurd h (by decide), fun e => by subst e; exact absurd h (by decide), fun e => by subst e; exact absurd h (by decide)⟩
theorem nm_no : ∀ {s : List UInt8}, nm s = true → ∀ c ∈ s, c ≠ 10 ∧ c ≠ 32 ∧ c ≠ 58
  | [], h => by simp [nm] at h
  | x :: t, h => by
    simp only [nm, Bool.and_eq_true, List.all_eq_true] at h
    intro c hc
    rcases List.mem_cons.1 hc with rfl | hc
    · exact tl_no (by simp [tl, h.2.1])
    · exact tl_no (h.2.2.2 c hc)
theorem wordB_no (k : Int) : ∀ c ∈ wordB k, c ≠ 10 ∧ c ≠ 32 ∧ c ≠ 58 := by
  unfold wordB
  repeat' split
  all_goals decide
theorem cf_ok : ∀ {l pre : List schema_Field}, cf pre l = 0 → ∀ f ∈ l, nm f.Name = true ∧ wordB f.Kind ≠ []
  | [], _, _, f, hf => by simp at hf
  | g :: l, pre, h, f, hf => by
    simp only [cf] at h
    split at h
    · rename_i h1
      split at h
      · omega
      · rename_i h2
        split at h
        · omega
        · rcases List.mem_cons.1 hf with rfl | hf
          · exact ⟨h1, by rw [← wordO_eq]; simpa using h2⟩
          · exact cf_ok h f hf
    · omega
theorem one_ok {t : schema_Type} (h : one t = 0) : nm t.Name = true ∧ ∀ f ∈ t.Fields, nm f.Name = true ∧ wordB f.Kind ≠ [] := by
  unfold one at h
  split at h
  · rename_i h1
    split at h
    · omega
    · exact ⟨h1, cf_ok h⟩
  · omega
theorem ck_ok : ∀ {l pre : List schema_Type}, ck pre l = 0 → ∀ t ∈ l, one t = 0
  | [], _, _, t, ht => by simp at ht
  | u :: l, pre, h, t, ht => by
    simp only [ck] at h
    split at h
    · rename_i h1
      simp [h] at h1
    · rename_i h1
      split at h
      · omega
      · rcases List.mem_cons.1 ht with rfl | ht
        · simpa using h1
        · exact ck_ok h t ht
theorem chk_ok {l : List schema_Type} (h : chk l = 0) : ∀ t ∈ l, one t = 0 := by
  unfold chk at h
  split at h
  · omega
  · exact ck_ok h
def wd (f : schema_Field) : List UInt8 := f.Name ++ 58 :: wordB f.Kind
theorem split_row : ∀ {fs : List schema_Field} {a : List UInt8}, 32 ∉ a → (∀ f ∈ fs, 32 ∉ wd f) → splitB 32 (a ++ fs.flatMap prF) = a :: fs.map wd
  | [], a, h, _ => by simp [splitB_not h]
  | f :: fs, a, h, hf => by
    have e : a ++ (f :: fs).flatMap prF = a ++ 32 :: (wd f ++ fs.flatMap prF) := by simp [prF, wd]
    rw [e, splitB_app h, split_row (hf f (by simp)) fun g hg => hf g (by simp [hg])]
    rfl
theorem wordB_inj {i j : Int} (h1 : 1 ≤ i) (h2 : i ≤ 4) (h3 : wordB i = wordB j) : i = j := by
  have : i = 1 ∨ i = 2 ∨ i = 3 ∨ i = 4 := by omega
  have hj : wordB j = if j = 1 then [105, 110, 116] else if j = 2 then [102, 108, 97, 103] else if j = 3 then [114, 101, 97, 108] else if j = 4 then [116, 101, 120, 116] else [] := rfl
  rw [hj] at h3
  rcases this with rfl | rfl | rfl | rfl <;> (revert h3; repeat' split) <;> first | (intro _; symm; assumption) | (intro h3; exact absurd h3 (by decide))
theorem wordB_in {k : Int} (h : wordB k ≠ []) : 1 ≤ k ∧ k ≤ 4 := by
  unfold wordB at h
  repeat' split at h
  all_goals first | omega | exact absurd rfl h
theorem w_Parse2 (l : List schema_Type) (hs : small l) (hc : chk l = 0) : W (fun N => s_schema_Parse N (prS l)) (· = (l, 0)) := by
  have h12 := hs.1
  have hlen := prS_len l hs.2
  have hok := chk_ok hc
  simp only [s_schema_Parse]
  refine W.lp2 (P := fun (s2 : List UInt8) (ys : List schema_Type) => ∃ rest, l = ys ++ rest ∧ s2 = prS rest) (m := fun s2 _ => s2.length) ⟨l, rfl, rfl⟩ ?_
  rintro F s2 ys ⟨rest, hl, rfl⟩ hn
  have hyl : ys.length ≤ 12 := by rw [hl, List.length_append] at h12; omega
  cases rest with
  | nil =>
    rw [List.append_nil] at hl
    subst hl
    simp only [s_schema_Parse_1, show (!(prS [] == [])) = false from rfl, cond_false]
    refine W.call (w_schema_Check l (small_sized hs)) ?_
    rintro _ rfl
    simp only [hc, show ((0 : Int) != 0) = false from rfl, cond_false, W.ret]
  | cons t rest =>
    have ht := hs.2 t (by rw [hl]; simp)
    obtain ⟨hnm, hf⟩ := one_ok (hok t (by rw [hl]; simp))
    have hfl := prF_len t.Fields ht.2.2
    have hrl := prS_len rest (fun x hx => hs.2 x (by rw [hl]; simp [hx]))
    have hrn : rest.length ≤ 12 := by rw [hl, List.length_append, List.length_cons] at h12; omega
    have es : prS (t :: rest) = (t.Name ++ t.Fields.flatMap prF) ++ 10 :: prS rest := by simp [prS, prT]
    have hne : (!(prS (t :: rest) == [])) = true := by rw [es]; cases t.Name ++ t.Fields.flatMap prF <;> rfl
    have hwd : ∀ f ∈ t.Fields, ∀ c ∈ wd f, c ≠ 10 ∧ c ≠ 32 := fun f hm c hcm => by
      simp only [wd, List.mem_append, List.mem_cons] at hcm
      rcases hcm with h | h | h
      · have := nm_no (hf f hm).1 c h; exact ⟨this.1, this.2.1⟩
      · subst h; decide
      · have := wordB_no _ c h; exact ⟨this.1, this.2.1⟩
    have h10 : (10 : UInt8) ∉ t.Name ++ t.Fields.flatMap prF := by
      simp only [List.mem_append, List.mem_flatMap, not_or, not_exists, not_and]
      refine ⟨fun h => (nm_no hnm 10 h).1 rfl, fun f hm h => ?_⟩
      have e : prF f = 32 :: wd f := by simp [prF, wd]
      rw [e] at h
      rcases List.mem_cons.1 h with h | h
      · exact absurd h (by decide)
      · exact (hwd f hm 10 h).1 rfl
    have hsp := split_row (fs := t.Fields) (a := t.Name) (fun h => (nm_no hnm 32 h).2.1 rfl) (fun f hm h => (hwd f hm 32 h).2 rfl)
    simp only [s_schema_Parse_1, hne, cond_true]
    refine W.call (w_Cut_v860 _ (by rw [es]; simp only [List.length_append, List.length_cons]; omega)) ?_
    rintro _ rfl
    rw [es, cutT_app h10]
    refine W.call (w_Split _ (by simp only [List.length_append]; omega)) ?_
    rintro _ rfl
    have e1 : leB 1 (((t.Name :: t.Fields.map wd).length : Nat) : Int) = true := leB_iff.2 (by simp; omega)
    simp only [hsp, show ix (t.Name :: t.Fields.map wd) 0 = some t.Name from rfl, Option.bind_some, e1, gd_true, show List.drop 1 (t.Name :: t.Fields.map wd) = t.Fields.map wd from rfl]
    refine wf3a (l := t.Fields.map wd) (fun pre a b => a = ys ∧ ∃ l2, t.Fields = b ++ l2 ∧ pre = b.map wd) [] rfl rfl (by simp; omega) ⟨rfl, t.Fields, rfl, rfl⟩ ?_ ?_
    · rintro F2 pre w r2 a b hl2 h1 h2 h3 ⟨rfl, l2, hb, rfl⟩ hn2
      obtain ⟨f, l3, rfl, rfl⟩ : ∃ f l3, l2 = f :: l3 ∧ w = wd f := by
        rw [hb, List.map_append] at hl2
        have := List.append_cancel_left hl2
        cases l2 with
        | nil => simp at this
        | cons f l3 => exact ⟨f, l3, rfl, by simp at this; exact this.1.symm⟩
      have hm : f ∈ t.Fields := by rw [hb]; simp
      have hbl : b.length ≤ 12 := by have := ht.2.1; rw [hb, List.length_append] at this; omega
      have hfn := ht.2.2 f hm
      have hw := wordB_le f.Kind
      simp only [s_schema_Parse_2, h1, h2, Option.bind_some, cond_true]
      refine W.call (w_Cut_v682 _ (by simp only [wd, List.length_append, List.length_cons]; omega)) ?_
      rintro _ rfl
      have hcut : cutT 58 (wd f) = (f.Name, wordB f.Kind, true) := cutT_app fun h => (nm_no (hf f hm).1 58 h).2.2 rfl
      rw [hcut]
      refine W.call (w_kindOf _) fun r hr => ?_
      have hrk : r = f.Kind := by
        obtain ⟨q1, q2⟩ := wordB_in (hf f hm).2
        rcases hr with ⟨_, h⟩ | ⟨h1, h2, h⟩
        · exact absurd rfl (h f.Kind q1 q2)
        · exact wordB_inj h1 h2 h
      subst hrk
      obtain ⟨q1, q2⟩ := wordB_in (hf f hm).2
      have hk : (f.Kind == 0) = false := by simp; omega
      simp only [Bool.not_true, hk, cond_false, W.gd, h3, true_and, Nat.ble_eq]
      exact ⟨by omega, hn2 _ _ ⟨rfl, l3, by rw [hb]; simp, by simp⟩⟩
    · rintro F2 a b h1 ⟨rfl, l2, hb, hpre⟩
      have hl2 : l2 = [] := by
        have := congrArg List.length hpre
        rw [List.length_map, List.length_map, hb, List.length_append] at this
        exact List.length_eq_zero_iff.1 (by omega)
      subst hl2
      rw [List.append_nil] at hb
      simp only [s_schema_Parse_2, h1, cond_false, Bool.not_true, W.gd, Nat.ble_eq]
      refine ⟨by omega, (hn _ _ ⟨rest, ?_, rfl⟩ ?_).lift⟩
      · rw [hl, ← hb]; simp
      · rw [es]; simp only [List.length_append, List.length_cons]; omega
end Go.Proofs.YtabploamljmibaaDoor.W
namespace Go.Proofs.YtabploamljmibaaDoor.W
open Go
set_option linter.unusedSimpArgs false
set_option linter.unusedVariables false
set_option maxRecDepth 100000

theorem awake_at (n : Nat) : s_law06_awake (n + 60) = some true := by kernel_rfl
theorem w_awake : W (fun N => s_law06_awake N) fun r => r = true := ⟨true, ⟨60, fun N hN => by
  obtain ⟨n, rfl⟩ : ∃ n, N = n + 60 := ⟨N - 60, by omega⟩
  exact awake_at n⟩, rfl⟩
theorem eqf_eq : ∀ {a b : List schema_Field}, a.length = b.length → eqf a b = true → a = b
  | [], [], _, _ => rfl
  | [], _ :: _, h, _ => by simp at h
  | _ :: _, [], h, _ => by simp at h
  | x :: a, y :: b, h, e => by
    simp only [eqf, Bool.and_eq_true, beq_iff_eq] at e
    have := eqf_eq (by simpa using h) e.2
    subst this
    cases x; cases y
    simp only at e
    rw [e.1.1, e.1.2]
theorem eqf_refl : ∀ l, eqf l l = true
  | [] => rfl
  | f :: r => by simp [eqf, eqf_refl r]
theorem eqt_eq {x y : schema_Type} (h : eqt x y = true) : x = y := by
  simp only [eqt, Bool.and_eq_true, beq_iff_eq, Bool.not_eq_true', bne_eq_false_iff_eq] at h
  have := eqf_eq (by have := h.2.1; omega) h.2.2
  cases x; cases y
  simp only at h this
  rw [h.1, this]
theorem eqs_eq : ∀ {a b : List schema_Type}, a.length = b.length → eqs a b = true → a = b
  | [], [], _, _ => rfl
  | [], _ :: _, h, _ => by simp at h
  | _ :: _, [], h, _ => by simp at h
  | x :: a, y :: b, h, e => by
    simp only [eqs, Bool.and_eq_true] at e
    rw [eqt_eq e.1, eqs_eq (by simpa using h) e.2]
theorem sme_eq {a b : List schema_Type} (h : sme a b = true) : a = b := by
  simp only [sme, Bool.and_eq_true, Bool.not_eq_true', bne_eq_false_iff_eq] at h
  exact eqs_eq (by have := h.1; omega) h.2
theorem sme_refl (l : List schema_Type) : sme l l = true := by
  have : ∀ l, eqs l l = true := by
    intro l
    induction l with
    | nil => rfl
    | cons t r ih => simp [eqs, eqt, eqf_refl, ih]
  simp [sme, this]
theorem full_SchemaBack (l : List schema_Type) (s : List UInt8) (_ : okL ok_schema_Type l) (_ : okS s) : W (fun N => s_law06_SchemaBack N l s) (· = true) := by
  have aw : ∀ {ι : Type} [Lim ι] (N : ι → Nat) [Tends N], W (fun i => (s_law06_awake (N i)).bind fun a => some a) (· = true) := fun N => wid.2 (w_awake.of N)
  simp only [s_law06_SchemaBack]
  refine W.call (w_law06_Over l) fun b hb => ?_
  simp only [W.cond, ltB_iff, ltB_not]
  refine ⟨fun _ => aw _, fun h => ⟨fun _ => aw _, fun h600 => ?_⟩⟩
  have hs := hb (by omega)
  have h12 := hs.1
  have hpl := prS_len l hs.2
  -- what the text is read as, if it is the schema's own
  obtain ⟨a, ha, hp1, hp2⟩ := w_Parse1 s (by omega)
  have hown : chk l = 0 → prS l = s → a = (l, 0) := fun hc he => by
    obtain ⟨b, hb, rfl⟩ := w_Parse2 l hs hc
    rw [he] at hb
    exact ha.uniq hb
  refine W.call ha.w fun b' hb' => ?_
  rw [hb']
  clear hb'
  -- the second half, whatever the first one told
  have rest : ∀ {ι : Type} [Lim ι] (N : ι → Nat) [Tends N], W (fun i => (s_law06_Own (N i) l).bind fun own => (s_schema_Print (N i) own).bind fun prin => (s_schema_Parse (N i) prin).bind fun pars => (s_schema_Check (N i) own).bind fun chec =>
      bif (chec != 0) then (s_law06_awake (N i)).bind fun awak => some awak
      else bif (pars.2 == 0) then (s_schema_Same (N i) pars.1 own).bind fun same => bif same then (s_schema_Print (N i) own).bind fun prin2 => bif (a.2 == 0) then (s_schema_Same (N i) a.1 own).bind fun same2 => bif ((prin2 == s) == same2) then (s_law06_awake (N i)).bind fun awak => some awak else some false
        else bif ((prin2 == s) == false) then (s_law06_awake (N i)).bind fun awak => some awak else some false else some false else some false) (· = true) := by
    intro ι _ N _
    refine W.call (w_law06_Own l hs) fun o ho => ?_
    rw [ho]
    clear ho
    refine W.call (w_schema_Print l (by omega)) ?_
    rintro _ rfl
    have hpp : W (fun N => s_schema_Parse N (prS l)) fun r => chk l = 0 → r = (l, 0) := by
      by_cases hc : chk l = 0
      · exact (w_Parse2 l hs hc).mp fun _ h _ => h
      · exact (w_Parse1 (prS l) (by omega)).mp fun _ _ h => absurd h hc
    refine W.call hpp fun q hq => ?_
    refine W.call (w_schema_Check l (small_sized hs)) ?_
    rintro _ rfl
    simp only [W.cond]
    refine ⟨fun _ => aw _, fun hc => ?_⟩
    have hc : chk l = 0 := by simpa using hc
    obtain rfl := hq hc
    refine ⟨fun _ => ?_, fun h => absurd (show (true = false) from h) (by decide)⟩
    refine W.call (w_schema_Same l l (small_sized hs)) ?_
    rintro _ rfl
    simp only [sme_refl, cond_true]
    refine W.call (w_schema_Print l (by omega)) ?_
    rintro _ rfl
    simp only [W.cond, W.ret]
    refine ⟨fun h0 => ?_, fun h0 => ⟨fun _ => aw _, fun h => ?_⟩⟩
    · have h0 : a.2 = 0 := by simpa using h0
      obtain ⟨hp, _⟩ := hp1 h0
      obtain ⟨hy1, hy2⟩ := prS_lb a.1
      have hal : (prS a.1).length ≤ 600 := by rw [hp]; omega
      refine W.call (w_schema_Same a.1 l ⟨by omega, fun t ht => by have := hy2 t ht; omega⟩) ?_
      rintro _ rfl
      have e : (prS l == s) = sme a.1 l := by
        rw [Bool.eq_iff_iff, beq_iff_eq]
        refine ⟨fun h => ?_, fun h => by rw [← sme_eq h]; exact hp⟩
        rw [hown hc h]; exact sme_refl l
      simp only [e, BEq.rfl, cond_true]
      exact aw _
    · have he : prS l = s := by
        cases hx : (prS l == s)
        · rw [hx] at h; exact absurd h (by decide)
        · exact eq_of_beq hx
      rw [hown hc he] at h0
      exact absurd (show (true = false) from h0) (by decide)
  simp only [W.cond]
  refine ⟨fun h0 => ?_, fun h0 => ?_⟩
  · have h0' : a.2 = 0 := by simpa using h0
    obtain ⟨hp, hck⟩ := hp1 h0'
    obtain ⟨hy1, hy2⟩ := prS_lb a.1
    have hal : (prS a.1).length ≤ 600 := by rw [hp]; omega
    refine W.call (w_schema_Print a.1 (by omega)) ?_
    rintro _ rfl
    simp only [hp, BEq.rfl, Bool.not_true, cond_false]
    refine W.call (w_schema_Check a.1 ⟨by omega, fun t ht => by have := hy2 t ht; omega⟩) ?_
    rintro _ rfl
    have h1 : (a.2 != 0) = false := by simp [h0']
    simp only [hck, h1, show ((0 : Int) != 0) = false from rfl, cond_false]
    exact rest _
  · have h1 : (a.2 != 0) = true := by simpa using h0
    have h2 : a.1 = [] := hp2 (by simpa using h1)
    simp only [h1, cond_true, h2, show (((([] : List schema_Type).length : Nat) : Int) != 0) = false from rfl, cond_false]
    have := rest (ι := Nat) (fun N => N)
    simp only [h2] at this
    exact ⟨fun _ => ⟨fun h => absurd h (by decide), fun _ => this⟩, fun h => absurd h (by decide)⟩
end Go.Proofs.YtabploamljmibaaDoor.W
