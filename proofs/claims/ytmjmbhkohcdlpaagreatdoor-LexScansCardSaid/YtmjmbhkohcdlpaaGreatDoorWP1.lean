/- What the law is handed, told as what its plain text takes. No premise beyond what each theorem says. -/
import Derived.Test.YtmjmbhkohcdlpaaGreatDoorWG1
import Derived.Test.YtmjmbhkohcdlpaaGreatDoorWA3
import Derived.Test.YtmjmbhkohcdlpaaGreatDoorWA4
set_option linter.all false
set_option linter.unusedSimpArgs false
set_option linter.unusedVariables false
namespace Go.Proofs.YtmjmbhkohcdlpaaGreatDoor.W
open Go
open Go.Proofs.Tryz
set_option maxRecDepth 1000000
set_option linter.unusedSimpArgs false
set_option linter.unusedVariables false
theorem d_law10_LexScans_t9 {H : Type} (d : DataW H) (cs : List AV) (h : DAv prog 9 d cs) : ∃ x : List UInt8, cs = [.v (.string (bs x))] ∧ okS x := by
  obtain ⟨x, h, h1⟩ := dv_string (by kernel_rfl) h
  exact ⟨x, h, h1⟩
theorem d_law10_LexScans {H : Type} (ds : List (DataW H)) (xs : List AV) (h : DAvV prog [9] ds xs) :
    ∃ (s : List UInt8), xs = [.v (.string (bs s))] ∧ okS s := by
  obtain ⟨_, _, _, _, rfl, rfl, h0, h⟩ := dvv_cons h
  obtain ⟨rfl, rfl⟩ := dvv_nil h
  obtain ⟨x0, rfl, k0⟩ := d_law10_LexScans_t9 _ _ h0
  exact ⟨x0, by rw [mkE_one (by kernel_rfl)], k0⟩
end Go.Proofs.YtmjmbhkohcdlpaaGreatDoor.W
namespace Go.Proofs.YtmjmbhkohcdlpaaGreatDoor.W
open Go
set_option linter.unusedSimpArgs false
set_option linter.unusedVariables false

theorem wall {α : Type} {f : Nat → Option α} {a : α} (h : ∀ N, f N = some a) : W f (· = a) := ⟨a, ⟨0, fun N _ => h N⟩, rfl⟩
theorem drop_len {α β : Type} {l : List α} {q : List β} (hl : l.length = q.length) {pre rest : List α} {e : α} (h : l = pre ++ e :: rest) : ∃ f rest2, q.drop pre.length = f :: rest2 ∧ q.drop (pre.length + 1) = rest2 ∧ ix q (pre.length : Int) = some f := by
  have hi : pre.length < q.length := by rw [← hl, h]; simp
  exact ⟨q[pre.length], _, List.drop_eq_getElem_cons hi, rfl, by rw [ix_nat']; exact List.getElem?_eq_getElem hi⟩
theorem wid {ι : Type} [Lim ι] {α : Type} {f : ι → Option α} {Q : α → Prop} : W (fun i => (f i).bind fun a => some a) Q ↔ W f Q := by
  have : (fun i => (f i).bind fun a => some a) = f := by funext i; cases f i <;> rfl
  rw [this]
theorem ix_app {α : Type} {l r : List α} {j : Int} {e : α} (h : ix l j = some e) (h0 : 0 ≤ j) : ix (l ++ r) j = some e := by
  obtain ⟨n, rfl⟩ := Int.eq_ofNat_of_zero_le h0
  rw [ix_nat'] at h ⊢
  obtain ⟨hn, _⟩ := List.getElem?_eq_some_iff.1 h
  rw [List.getElem?_append_left hn, h]
end Go.Proofs.YtmjmbhkohcdlpaaGreatDoor.W
namespace Go.Proofs.YtmjmbhkohcdlpaaGreatDoor.W
open Go
set_option linter.unusedSimpArgs false
set_option linter.unusedVariables false

theorem ncmp (a : Int) : compare a a = .eq := by simp [compare, compareOfLessAndEq]
theorem bcmp (a : Bool) : compare a.toNat a.toNat = .eq := by simp [compare, compareOfLessAndEq]
theorem nan_iff (n : Nat) : fcmpB .neq .f64 n n = decide (9218868437227405312 < n % 9223372036854775808) := by
  have h : FloatKind.f64.format = Ieee.double := rfl
  simp only [fcmpB, h, Ieee.Format.order, Ieee.Format.read]
  have e1 : Ieee.double.signWeight = 9223372036854775808 := by decide
  have e2 : Ieee.double.infRung = 9218868437227405312 := by decide
  have e3 : Ieee.double.binade = 4503599627370496 := by decide
  rw [e1, e2, e3]
  by_cases h1 : n % 9223372036854775808 < 4503599627370496
  · rw [if_pos h1, decide_eq_false (by omega)]; simp only [Ieee.Datum.order, ncmp]; rfl
  · by_cases h2 : n % 9223372036854775808 < 9218868437227405312
    · rw [if_neg h1, if_pos h2, decide_eq_false (by omega)]; simp only [Ieee.Datum.order, ncmp]; rfl
    · by_cases h3 : n % 9223372036854775808 = 9218868437227405312
      · rw [if_neg h1, if_neg h2, if_pos h3, decide_eq_false (by omega)]; simp only [Ieee.Datum.order, bcmp]; rfl
      · rw [if_neg h1, if_neg h2, if_neg h3, decide_eq_true (by omega)]; rfl

def cln (u : Int) : Int := if 9218868437227405312 < u.toNat % 9223372036854775808 then 9221120237041090560 else u
theorem e_real_Clean (u : Int) (N : Nat) : s_real_Clean N u = some (cln u) := by
  simp only [s_real_Clean, s_real_of, Option.bind_some, nan_iff, cln, decide_eq_true_eq, Bool.cond_eq_ite]
  split <;> rfl
def vchk (v : value_Value) : Int :=
  if v.Kind = 1 then (if v.N < -4611686018427387904 ∨ 4611686018427387904 < v.N then 8 else if v.Bits = 0 ∧ v.Text = [] then 0 else 2)
  else if v.Kind = 2 then (if v.N < 0 ∨ 1 < v.N then 8 else if v.Bits = 0 ∧ v.Text = [] then 0 else 2)
  else if v.Kind = 3 then (if cln v.Bits ≠ v.Bits then 4 else if v.N = 0 ∧ v.Text = [] then 0 else 2)
  else if v.Kind = 4 then (if 24 < v.Text.length then 5 else if v.N = 0 ∧ v.Bits = 0 then 0 else 2)
  else 11
theorem e_value_Check (v : value_Value) (N : Nat) : s_value_Check N v = some (vchk v) := by
  have hc := e_real_Clean v.Bits N
  simp only [s_value_Check, s_value_core, vchk, Bool.cond_eq_ite]
  by_cases k1 : v.Kind = 1
  · simp [k1, s_value_number_whole, ltB_iff]; repeat' split
    all_goals first | rfl | (exfalso; omega) | simp_all [eq_comm]
  · by_cases k2 : v.Kind = 2
    · simp [k2, s_value_flag_whole]; repeat' split
      all_goals first | rfl | (exfalso; omega) | simp_all [eq_comm]
    · by_cases k3 : v.Kind = 3
      · simp [k3, s_value_double_whole, hc]; repeat' split
        all_goals first | rfl | (exfalso; omega) | simp_all [eq_comm]
      · by_cases k4 : v.Kind = 4
        · simp [k4, s_value_words_whole, ltB_iff]; repeat' split
          all_goals first | rfl | (exfalso; omega) | simp_all [eq_comm]
        · simp [k1, k2, k3, k4]
end Go.Proofs.YtmjmbhkohcdlpaaGreatDoor.W
namespace Go.Proofs.YtmjmbhkohcdlpaaGreatDoor.W
open Go
set_option linter.unusedSimpArgs false
set_option linter.unusedVariables false

theorem e_ref03_Clean (u : Int) (h0 : 0 ≤ u) (h1 : u ≤ 18446744073709551615) (N : Nat) : s_ref03_Clean N u = some (cln u) := by
  obtain ⟨n, rfl⟩ : ∃ n : Nat, u = (n : Int) := ⟨u.toNat, by omega⟩
  have d1 : Int.tdiv (n : Int) 4503599627370496 = ((n / 4503599627370496 : Nat) : Int) := rfl
  have w1 : IntKind.u64.wrap ((n / 4503599627370496 : Nat) : Int) = ((n / 4503599627370496 : Nat) : Int) := by
    rw [IntKind.wrap_u64]; omega
  have d2 : Int.tmod ((n / 4503599627370496 : Nat) : Int) 2048 = ((n / 4503599627370496 % 2048 : Nat) : Int) := rfl
  have w2 : IntKind.i64.wrap ((n / 4503599627370496 % 2048 : Nat) : Int) = ((n / 4503599627370496 % 2048 : Nat) : Int) := by
    rw [IntKind.wrap_i64]; omega
  have d3 : Int.tmod (n : Int) 4503599627370496 = ((n % 4503599627370496 : Nat) : Int) := rfl
  have hexp : s_ref03_Exp N n = some ((n / 4503599627370496 % 2048 : Nat) : Int) := by simp only [s_ref03_Exp, d1, w1, d2, w2]
  have hfrac : s_ref03_Frac N n = some ((n % 4503599627370496 : Nat) : Int) := by simp only [s_ref03_Frac, d3]
  have hk : ∃ k, s_ref03_Kind N n = some k ∧ (k == 5) = decide (9218868437227405312 < n % 9223372036854775808) := by
    simp only [s_ref03_Kind, hexp, hfrac, Option.bind_some, Bool.cond_eq_ite]
    by_cases c1 : n / 4503599627370496 % 2048 = 2047
    · have c1' : (((n / 4503599627370496 % 2048 : Nat) : Int) == 2047) = true := by simp; omega
      by_cases c2 : n % 4503599627370496 = 0
      · have c2' : (((n % 4503599627370496 : Nat) : Int) != 0) = false := by simp; omega
        simp only [c1', c2', if_true]
        exact ⟨4, rfl, by symm; exact decide_eq_false (by omega)⟩
      · have c2' : (((n % 4503599627370496 : Nat) : Int) != 0) = true := by simp; omega
        simp only [c1', c2', if_true]
        exact ⟨5, rfl, by symm; exact decide_eq_true (by omega)⟩
    · have c1' : (((n / 4503599627370496 % 2048 : Nat) : Int) == 2047) = false := by simp; omega
      simp only [c1', Bool.false_eq_true, if_false]
      have hd : decide (9218868437227405312 < n % 9223372036854775808) = false := decide_eq_false (by omega)
      rw [hd]
      by_cases c3 : (((n / 4503599627370496 % 2048 : Nat) : Int) != 0) = true
      · simp only [c3, if_true]; exact ⟨3, rfl, rfl⟩
      · by_cases c4 : (((n % 4503599627370496 : Nat) : Int) != 0) = true
        · simp only [eq_false_of_ne_true c3, c4, if_true, Bool.false_eq_true, if_false]; exact ⟨2, rfl, rfl⟩
        · simp only [eq_false_of_ne_true c3, eq_false_of_ne_true c4, Bool.false_eq_true, if_false]; exact ⟨1, rfl, rfl⟩
  obtain ⟨k, hk1, hk2⟩ := hk
  simp only [s_ref03_Clean, hk1, hk2, Option.bind_some, cln, decide_eq_true_eq, Int.toNat_natCast, Bool.cond_eq_ite]
  split <;> rfl

end Go.Proofs.YtmjmbhkohcdlpaaGreatDoor.W
namespace Go.Proofs.YtmjmbhkohcdlpaaGreatDoor.W
open Go
set_option linter.unusedSimpArgs false
set_option linter.unusedVariables false

def zv : value_Value := ⟨0, 0, 0, []⟩
def isS (c : UInt8) : Bool := leB 97 (c.toNat : Int) && leB (c.toNat : Int) 122
def isD (c : UInt8) : Bool := leB 48 (c.toNat : Int) && leB (c.toNat : Int) 57
def isT (c : UInt8) : Bool := isS c || isD c || ((c.toNat : Int) == 95)
def isG (c : UInt8) : Bool := leB 0 (Lib.indexByte [40, 41, 91, 93, 123, 125, 59, 124, 33, 58, 44, 46, 43, 42, 63, 45, 61, 60, 62] c)
def isC (c : UInt8) : Bool := leB 0 (Lib.indexByte [33, 60, 62] c)
def known (c : UInt8) : Bool := isS c || isD c || ((c.toNat : Int) == 35) || ((c.toNat : Int) == 39) || isG c
def blank (c : UInt8) : Bool := ((c.toNat : Int) == 32) || ((c.toNat : Int) == 9) || ((c.toNat : Int) == 10)
/-- What a digit to the base 16 is worth. -/
def hx (c : UInt8) : Option Nat := if isD c then some (c.toNat - 48) else if leB 97 (c.toNat : Int) && leB (c.toNat : Int) 102 then some (c.toNat - 87) else none

/-- A token (kind, text, value, length), or what is wrong, and how far from its begin. -/
abbrev R1 := (Int × List UInt8 × value_Value × Nat) ⊕ (Int × Nat)
def resl : List (List UInt8) := [[119, 105, 116, 104, 105, 110], [98, 121], [97, 110, 100], [111, 114], [110, 111, 116], [97, 110, 121], [110, 101, 120, 116], [115, 116, 114, 105, 99, 116], [116, 114, 117, 101], [102, 97, 108, 115, 101]]
def resv (s : List UInt8) : Bool := resl.any (s == ·)
def wordR (w : List UInt8) : R1 :=
  if w = [116, 114, 117, 101] then .inl (3, [], ⟨2, 1, 0, []⟩, w.length)
  else if w = [102, 97, 108, 115, 101] then .inl (3, [], ⟨2, 0, 0, []⟩, w.length)
  else if resv w then .inl (2, w, zv, w.length)
  else if 12 < w.length then .inr (5, 0)
  else .inl (1, w, zv, w.length)
def numv : Nat → List UInt8 → Option Nat
  | v, [] => some v
  | v, c :: t => if (4611686018427387904 - (c.toNat - 48)) / 10 < v then none else numv (10 * v + (c.toNat - 48)) t
def numR (w : List UInt8) : R1 :=
  if 1 < w.length ∧ w.head? = some 48 then .inr (4, 0)
  else match numv 0 w with
    | none => .inr (8, 0)
    | some v => .inl (3, [], ⟨1, (v : Int), 0, []⟩, w.length)
def hexv : Nat → List UInt8 → Option Nat
  | u, [] => some u
  | u, c :: t => match hx c with
    | none => none
    | some d => hexv (16 * u + d) t
def dblR (t : List UInt8) : R1 :=
  if t.length < 16 then .inr (4, 0) else match hexv 0 (t.take 16) with
    | none => .inr (4, 0)
    | some u => if cln (u : Int) = (u : Int) then .inl (3, [], ⟨3, 0, (u : Int), []⟩, 17) else .inr (4, 0)
def quoR : List UInt8 → Nat → List UInt8 → R1
  | [], _, _ => .inr (3, 0)
  | c :: t, off, b =>
    if c.toNat < 32 ∨ 126 < c.toNat then .inr (10, off)
    else if c = 92 then match t with
      | x :: y :: t => match hx x, hx y with
        | some h, some l => quoR t (off + 3) (b ++ [UInt8.ofNat (16 * h + l)])
        | _, _ => .inr (4, off)
      | _ => .inr (4, off)
    else if c = 39 then match t with
      | x :: t => if x = 39 then quoR t (off + 2) (b ++ [39]) else if 24 < b.length then .inr (5, 0) else .inl (3, [], ⟨4, 0, 0, b⟩, off + 1)
      | [] => if 24 < b.length then .inr (5, 0) else .inl (3, [], ⟨4, 0, 0, b⟩, off + 1)
    else quoR t (off + 1) (b ++ [c])
theorem quoR_nil (off : Nat) (b : List UInt8) : quoR [] off b = .inr (3, 0) := by rw [quoR.eq_def]
theorem quoR_cons (c : UInt8) (t : List UInt8) (off : Nat) (b : List UInt8) : quoR (c :: t) off b =
    if c.toNat < 32 ∨ 126 < c.toNat then .inr (10, off)
    else if c = 92 then match t with
      | x :: y :: t => match hx x, hx y with
        | some h, some l => quoR t (off + 3) (b ++ [UInt8.ofNat (16 * h + l)])
        | _, _ => .inr (4, off)
      | _ => .inr (4, off)
    else if c = 39 then match t with
      | x :: t => if x = 39 then quoR t (off + 2) (b ++ [39]) else if 24 < b.length then .inr (5, 0) else .inl (3, [], ⟨4, 0, 0, b⟩, off + 1)
      | [] => if 24 < b.length then .inr (5, 0) else .inl (3, [], ⟨4, 0, 0, b⟩, off + 1)
    else quoR t (off + 1) (b ++ [c]) := by rw [quoR.eq_def]
def signR (c : UInt8) (t : List UInt8) : R1 :=
  if isC c ∧ t.head? = some 61 then .inl (4, [c, 61], zv, 2) else .inl (4, [c], zv, 1)
/-- The token that a text begins with. -/
def oneR : List UInt8 → R1
  | [] => .inr (10, 0)
  | c :: t => if isS c then wordR ((c :: t).takeWhile isT)
    else if isD c then numR ((c :: t).takeWhile isD)
    else if (c.toNat : Int) == 35 then dblR t
    else if (c.toNat : Int) == 39 then quoR t 1 []
    else if isG c then signR c t
    else .inr (10, 0)
def scanR (r : List UInt8) (p : Nat) (out : List lex_Token) : List lex_Token ⊕ (Int × Int) :=
  match r with
  | [] => .inl out
  | c :: t => if blank c then scanR t (p + 1) out
    else if known c && decide (out.length = 200) then .inr (7, (p : Int))
    else match oneR (c :: t) with
      | .inr (e, o) => .inr (e, ((p + o : Nat) : Int))
      | .inl (k, x, v, m) => scanR (t.drop (m - 1)) (p + m) (out ++ [⟨k, (p : Int), x, v⟩])
termination_by r.length
def scan (s : List UInt8) : List lex_Token ⊕ (Int × Int) := if 600 < s.length then .inr (5, 0) else scanR s 0 []

/-! ### Small facts -/
theorem small_c (c : UInt8) (N : Nat) : s_lex_small N (c.toNat : Int) = some (isS c) := by
  simp only [s_lex_small, isS]; cases leB 97 (c.toNat : Int) <;> rfl
theorem digit_c (c : UInt8) (N : Nat) : s_lex_digit N (c.toNat : Int) = some (isD c) := by
  simp only [s_lex_digit, isD]; cases leB 48 (c.toNat : Int) <;> rfl
theorem tail_c (c : UInt8) (N : Nat) : s_lex_tail N (c.toNat : Int) = some (isT c) := by
  simp only [s_lex_tail, small_c, digit_c, Option.bind_some, isT]
  cases isS c <;> cases isD c <;> rfl
theorem byte_all {P : UInt8 → Prop} (h : ∀ n : Fin 256, P (UInt8.ofNat n.val)) (c : UInt8) : P c := by
  have := h ⟨c.toNat, c.toNat_lt⟩
  simpa using this
theorem ofN (c : UInt8) : UInt8.ofNat (Int.toNat (c.toNat : Int)) = c := by simp
theorem hx_ix : ∀ c : UInt8, Lib.indexByte [48, 49, 50, 51, 52, 53, 54, 55, 56, 57, 97, 98, 99, 100, 101, 102] c = match hx c with
    | none => -1
    | some d => (d : Int) := byte_all (by decide +kernel)
theorem hx_lt {c : UInt8} {d : Nat} (h : hx c = some d) : d < 16 := by
  unfold hx at h
  split at h
  · rename_i hd
    simp only [isD, Bool.and_eq_true, leB_iff] at hd
    cases h; omega
  · split at h
    · rename_i hd
      simp only [Bool.and_eq_true, leB_iff] at hd
      cases h; omega
    · cases h
theorem base_c (c : UInt8) (N : Nat) : s_lex_base16 N (c.toNat : Int) = some (match hx c with | none => -1 | some d => (d : Int)) := by
  simp only [s_lex_base16, s_strings_IndexByte, s_stringslite_IndexByte, Option.bind_some, ofN, hx_ix]
theorem index_c (l : List UInt8) (c : UInt8) (N : Nat) : s_strings_IndexByte N l (c.toNat : Int) = some (Lib.indexByte l c) := by
  simp only [s_strings_IndexByte, s_stringslite_IndexByte, Option.bind_some, ofN]
theorem reserved_c (s : List UInt8) (N : Nat) : s_schema_Reserved N s = some (resv s) := by
  have e2 : ∀ (b r : Bool), (bif b then some true else some r) = some (b || r) := by intro b r; cases b <;> rfl
  have e3 : ∀ (b r r' : Bool), (bif b then some (b || r') else some r) = some (b || r) := by intro b r r'; cases b <;> rfl
  have e4 : ∀ (b r : Bool), (bif b then some b else some r) = some (b || r) := by intro b r; cases b <;> rfl
  unfold s_schema_Reserved
  simp only [resv, resl, List.any_cons, List.any_nil, e2, e3, e4, Bool.or_false]
end Go.Proofs.YtmjmbhkohcdlpaaGreatDoor.W
namespace Go.Proofs.YtmjmbhkohcdlpaaGreatDoor.W
open Go
set_option linter.unusedSimpArgs false
set_option linter.unusedVariables false

theorem tw_le {α : Type} (p : α → Bool) : ∀ r : List α, (r.takeWhile p).length ≤ r.length
  | [] => Nat.le_refl _
  | x :: r => by
    have := tw_le p r
    simp only [List.takeWhile_cons]
    split <;> simp; omega
theorem tw_at {α : Type} {p : α → Bool} : ∀ {r : List α} {k : Nat} {e : α}, k ≤ (r.takeWhile p).length → r[k]? = some e → p e = decide (k < (r.takeWhile p).length)
  | [], _, _, _, h => by simp at h
  | x :: r, 0, e, _, h => by
    simp only [List.getElem?_cons_zero, Option.some.injEq] at h
    subst h
    simp only [List.takeWhile_cons]
    cases p x <;> simp
  | x :: r, k + 1, e, hk, h => by
    simp only [List.getElem?_cons_succ] at h
    simp only [List.takeWhile_cons] at hk ⊢
    cases hx : p x with
    | false => simp [hx] at hk
    | true =>
      simp only [hx, if_true, List.length_cons, Nat.add_le_add_iff_right, Nat.add_lt_add_iff_right] at hk ⊢
      exact tw_at hk h
theorem tw_take {α : Type} (p : α → Bool) : ∀ r : List α, r.take (r.takeWhile p).length = r.takeWhile p
  | [] => rfl
  | x :: r => by
    simp only [List.takeWhile_cons]
    split
    · simp [tw_take p r]
    · rfl
theorem ix_drop {y : List UInt8} {a k : Nat} {e : UInt8} (h : (y.drop a)[k]? = some e) : ix y ((a : Int) + (k : Int)) = some e := by
  rw [show (a : Int) + (k : Int) = ((a + k : Nat) : Int) by omega, ix_nat', ← h, List.getElem?_drop]
theorem drop_get {y : List UInt8} {a k : Nat} (h : a + k < y.length) : ∃ e, (y.drop a)[k]? = some e := by
  rw [List.getElem?_drop]; exact ⟨y[a + k], List.getElem?_eq_getElem h⟩

theorem w_len_T (y : List UInt8) (a : Nat) (xs : List lex_Token) (ha : a ≤ y.length) (hy : y.length ≤ 700) :
    W (fun N => s_lex_scanner_length_v869 N y a xs) (· = ((((y.drop a).takeWhile isT).length : Int), y, (a : Int), xs)) := by
  have hl := tw_le isT (y.drop a)
  rw [List.length_drop] at hl
  simp only [s_lex_scanner_length_v869]
  refine W.lp1 (fun v : Int => ∃ k : Nat, v = k ∧ k ≤ ((y.drop a).takeWhile isT).length) (fun v : Int => ((y.drop a).takeWhile isT).length - v.toNat) ⟨0, rfl, Nat.zero_le _⟩ ?_
  rintro F v ⟨k, rfl, hk⟩ hn
  simp only [s_lex_scanner_length_v869_1, W.gd, W.cond, i64b_eq, ltB_iff, ltB_not, W.ret]
  refine ⟨by omega, fun h => ⟨by omega, ?_⟩, fun h => by rw [show k = ((y.drop a).takeWhile isT).length by omega]⟩
  obtain ⟨e, he⟩ := drop_get (y := y) (a := a) (k := k) (by omega)
  have hp := tw_at hk he
  simp only [ix_drop he, Option.bind_some, tail_c, hp, W.cond, W.gd, decide_eq_true_eq, decide_eq_false_iff_not, W.ret, i64b_eq]
  refine ⟨fun h2 => ⟨by omega, hn _ ⟨k + 1, by omega, h2⟩ (by omega)⟩, fun h2 => by rw [show k = ((y.drop a).takeWhile isT).length by omega]⟩
theorem w_len_D (y : List UInt8) (a : Nat) (xs : List lex_Token) (ha : a ≤ y.length) (hy : y.length ≤ 700) :
    W (fun N => s_lex_scanner_length_v416 N y a xs) (· = ((((y.drop a).takeWhile isD).length : Int), y, (a : Int), xs)) := by
  have hl := tw_le isD (y.drop a)
  rw [List.length_drop] at hl
  simp only [s_lex_scanner_length_v416]
  refine W.lp1 (fun v : Int => ∃ k : Nat, v = k ∧ k ≤ ((y.drop a).takeWhile isD).length) (fun v : Int => ((y.drop a).takeWhile isD).length - v.toNat) ⟨0, rfl, Nat.zero_le _⟩ ?_
  rintro F v ⟨k, rfl, hk⟩ hn
  simp only [s_lex_scanner_length_v416_1, W.gd, W.cond, i64b_eq, ltB_iff, ltB_not, W.ret]
  refine ⟨by omega, fun h => ⟨by omega, ?_⟩, fun h => by rw [show k = ((y.drop a).takeWhile isD).length by omega]⟩
  obtain ⟨e, he⟩ := drop_get (y := y) (a := a) (k := k) (by omega)
  have hp := tw_at hk he
  simp only [ix_drop he, Option.bind_some, digit_c, hp, W.cond, W.gd, decide_eq_true_eq, decide_eq_false_iff_not, W.ret, i64b_eq]
  refine ⟨fun h2 => ⟨by omega, hn _ ⟨k + 1, by omega, h2⟩ (by omega)⟩, fun h2 => by rw [show k = ((y.drop a).takeWhile isD).length by omega]⟩

/-- What is told behind a token: text, place, tokens; or an error and its place. -/
abbrev St3 := List UInt8 × Int × List lex_Token
abbrev Ft := Int × Int × List UInt8 × Int × List lex_Token
def finA : St3 ⊕ Ft ⊕ St3 → St3 ⊕ (Int × Int)
  | .inl x => .inl x
  | .inr (.inl f) => .inr (f.1, f.2.1)
  | .inr (.inr x) => .inl x
def finW : St3 ⊕ St3 ⊕ Ft → St3 ⊕ (Int × Int)
  | .inl x => .inl x
  | .inr (.inl x) => .inl x
  | .inr (.inr f) => .inr (f.1, f.2.1)
def stepR (y : List UInt8) (a : Nat) (xs : List lex_Token) : R1 → St3 ⊕ (Int × Int)
  | .inl (k, x, v, m) => .inl (y, ((a + m : Nat) : Int), xs ++ [⟨k, (a : Int), x, v⟩])
  | .inr (e, o) => .inr (e, ((a + o : Nat) : Int))

theorem w_put (n : Nat) (k : Int) (x : List UInt8) (v : value_Value) (y : List UInt8) (a : Nat) (xs : List lex_Token) (h1 : a ≤ 700) (h2 : n ≤ 700) (h3 : xs.length ≤ 700) :
    W (fun N => s_lex_scanner_put_v420 N (n : Int) k x v y a xs) (· = (y, ((a + n : Nat) : Int), xs ++ [⟨k, (a : Int), x, v⟩])) := by
  simp only [s_lex_scanner_put_v420, W.gd, W.ret, i64b_eq]
  refine ⟨Nat.ble_eq_true_of_le (by omega), by omega, ?_⟩
  rw [show ((a + n : Nat) : Int) = (a : Int) + (n : Int) by omega]
theorem fail_c (e : Int) (he : (e == 0) = false) (y : List UInt8) (a : Int) (xs : List lex_Token) (N : Nat) : s_lex_scanner_fail_v359 N e y a xs = some (.inr (e, a, y, a, xs)) := by
  simp only [s_lex_scanner_fail_v359, s_fault_New, he, cond_false, Option.bind_some, Sum.elim_inr]
theorem w_word (y : List UInt8) (a : Nat) (xs : List lex_Token) (ha : a ≤ y.length) (hy : y.length ≤ 700) (hx : xs.length ≤ 700) :
    W (fun N => s_lex_scanner_word_v558 N y a xs) fun r => finW r = stepR y a xs (wordR ((y.drop a).takeWhile isT)) := by
  have hl := tw_le isT (y.drop a)
  rw [List.length_drop] at hl
  simp only [s_lex_scanner_word_v558]
  refine W.call (w_len_T y a xs ha hy) ?_
  rintro _ rfl
  have hw : List.drop (Int.toNat (a : Int)) (List.take (Int.toNat ((a : Int) + (((y.drop a).takeWhile isT).length : Nat))) y) = (y.drop a).takeWhile isT := by
    rw [show Int.toNat ((a : Int) + (((y.drop a).takeWhile isT).length : Nat)) = a + ((y.drop a).takeWhile isT).length by omega, Int.toNat_natCast, List.drop_take, Nat.add_sub_cancel_left]
    exact tw_take _ _
  simp only [W.gd, W.cond, W.ret, i64b_eq, leB_iff, hw]
  generalize (y.drop a).takeWhile isT = w at *
  have put : ∀ {ι : Type} [Lim ι] (N : ι → Nat) [Tends N] (k : Int) (x : List UInt8) (v : value_Value), wordR w = .inl (k, x, v, w.length) → W (fun i => (s_lex_scanner_put_v420 (N i) (w.length : Nat) k x v y a xs).bind fun p => some (.inl (p.1, p.2.1, p.2.2) : St3 ⊕ St3 ⊕ Ft)) fun r => finW r = stepR y a xs (wordR w) := fun N _ k x v he => by
    refine W.call (w_put _ _ _ _ _ _ _ (by omega) (by omega) hx) ?_
    rintro _ rfl
    rw [he]; exact W.ret.2 rfl
  refine ⟨by omega, by omega, by omega, by omega, fun h => ?_, fun h => ⟨fun h2 => ?_, fun h2 => ?_⟩⟩
  · have h := eq_of_beq h
    subst h
    exact put _ 3 [] ⟨2, 1, 0, []⟩ rfl
  · have h2 := eq_of_beq h2
    subst h2
    exact put _ 3 [] ⟨2, 0, 0, []⟩ rfl
  · have h : ¬ w = [116, 114, 117, 101] := by simpa using h
    have h2 : ¬ w = [102, 97, 108, 115, 101] := by simpa using h2
    simp only [reserved_c, Option.bind_some, W.cond]
    refine ⟨fun h3 => put _ 2 w zv (by rw [wordR, if_neg h, if_neg h2, if_pos h3]), fun h3 => ⟨fun h4 => ?_, fun h4 => put _ 1 w zv ?_⟩⟩
    · have h4 := ltB_iff.1 h4
      simp only [fail_c 5 rfl, Option.bind_some, Sum.elim_inr, W.ret]
      rw [wordR, if_neg h, if_neg h2, if_neg (by simp [h3]), if_pos (by omega)]; rfl
    · have h4 := ltB_not.1 h4
      rw [wordR, if_neg h, if_neg h2, if_neg (by simp [h3]), if_neg (by omega)]
end Go.Proofs.YtmjmbhkohcdlpaaGreatDoor.W
namespace Go.Proofs.YtmjmbhkohcdlpaaGreatDoor.W
open Go
set_option linter.unusedSimpArgs false
set_option linter.unusedVariables false

theorem tw_get {α : Type} {p : α → Bool} : ∀ {r : List α} {k : Nat}, k < (r.takeWhile p).length → (r.takeWhile p)[k]? = r[k]?
  | [], k, h => by simp at h
  | x :: r, k, h => by
    cases hx : p x with
    | false => simp [List.takeWhile_cons, hx] at h
    | true =>
      simp only [List.takeWhile_cons, hx, if_true, List.length_cons] at h ⊢
      cases k with
      | zero => rfl
      | succ k =>
        simp only [List.getElem?_cons_succ]
        exact tw_get (by omega)
theorem drop_eq {α : Type} {l : List α} {k : Nat} {e : α} (h : l[k]? = some e) : l.drop k = e :: l.drop (k + 1) := by
  obtain ⟨h1, h2⟩ := List.getElem?_eq_some_iff.1 h
  rw [List.drop_eq_getElem_cons h1, h2]
theorem isD_iff {c : UInt8} : isD c = true ↔ 48 ≤ c.toNat ∧ c.toNat ≤ 57 := by
  simp only [isD, Bool.and_eq_true, leB_iff]; omega
theorem w_number (y : List UInt8) (a : Nat) (xs : List lex_Token) (ha : a < y.length) (hy : y.length ≤ 700) (hx : xs.length ≤ 700) :
    W (fun N => s_lex_scanner_number_v558 N y a xs) fun r => finA r = stepR y a xs (numR ((y.drop a).takeWhile isD)) := by
  have hl := tw_le isD (y.drop a)
  rw [List.length_drop] at hl
  simp only [s_lex_scanner_number_v558]
  refine W.call (w_len_D y a xs (Nat.le_of_lt ha) hy) ?_
  rintro _ rfl
  have hD : ∀ k, k < ((y.drop a).takeWhile isD).length → ∃ e, ((y.drop a).takeWhile isD)[k]? = some e ∧ (y.drop a)[k]? = some e ∧ isD e = true := fun k hk => by
    obtain ⟨e, he⟩ := drop_get (y := y) (a := a) (k := k) (by omega)
    exact ⟨e, (tw_get hk).trans he, he, by rw [tw_at (Nat.le_of_lt hk) he]; exact decide_eq_true hk⟩
  generalize (y.drop a).takeWhile isD = w at *
  have loop : ¬ (1 < w.length ∧ w.head? = some 48) → ∀ {ι : Type} [Lim ι] (N : ι → Nat) [Tends N], W (fun i => lp2 (s_lex_scanner_number_v558_1 (N i) (w.length : Int) (w.length : Int) y (a : Int) xs) (N i) 0 0) fun r => finA r = stepR y a xs (numR w) := fun h0 {ι} _ N _ => by
    have key : ∀ v, numv 0 w = v → numR w = match v with
        | none => .inr (8, 0)
        | some v => .inl (3, [], ⟨1, (v : Int), 0, []⟩, w.length) := fun v hv => by rw [numR, if_neg h0, hv] <;> cases v <;> rfl
    refine W.lp2 (fun v x => ∃ V k : Nat, v = (V : Int) ∧ x = (k : Int) ∧ k ≤ w.length ∧ V ≤ 4611686018427387904 ∧ numv 0 w = numv V (w.drop k)) (fun _ x => w.length - x.toNat) ⟨0, 0, rfl, rfl, Nat.zero_le _, by omega, rfl⟩ ?_
    rintro F v x ⟨V, k, rfl, rfl, hk, hV, hv⟩ hn
    simp only [s_lex_scanner_number_v558_1, W.cond, W.gd, ltB_iff, ltB_not, i64b_eq]
    refine ⟨fun hlt => ⟨by omega, ?_⟩, fun hge => ?_⟩
    · obtain ⟨e, he1, he2, he3⟩ := hD k (by omega)
      have h48 := isD_iff.1 he3
      have e1 : IntKind.i64.wrap (IntKind.u8.wrap ((e.toNat : Int) - 48)) = ((e.toNat - 48 : Nat) : Int) := by rw [IntKind.wrap_u8, IntKind.wrap_i64]; omega
      have e2 : IntKind.i64.wrap (Int.tdiv (4611686018427387904 - ((e.toNat - 48 : Nat) : Int)) 10) = (((4611686018427387904 - (e.toNat - 48)) / 10 : Nat) : Int) := by
        rw [show (4611686018427387904 : Int) - ((e.toNat - 48 : Nat) : Int) = ((4611686018427387904 - (e.toNat - 48) : Nat) : Int) by omega]
        rw [show Int.tdiv ((4611686018427387904 - (e.toNat - 48) : Nat) : Int) 10 = (((4611686018427387904 - (e.toNat - 48)) / 10 : Nat) : Int) from rfl, IntKind.wrap_i64]
        omega
      rw [drop_eq he1, numv] at hv
      simp only [ix_drop he2, Option.bind_some, e1, e2, W.gd, W.cond, i64b_eq, ltB_iff, ltB_not]
      have hd : e.toNat - 48 ≤ 9 := by omega
      generalize e.toNat - 48 = d at *
      refine ⟨by omega, fun h => ?_, fun h => ?_⟩
      · rw [if_pos (by omega)] at hv
        simp only [fail_c 8 rfl, Option.bind_some, Sum.elim_inr, W.ret, key _ hv]
        rfl
      · rw [if_neg (by omega)] at hv
        refine ⟨by omega, by omega, by omega, hn _ _ ⟨10 * V + d, k + 1, by omega, by omega, by omega, by omega, hv⟩ (by omega)⟩
    · have hk : k = w.length := by omega
      rw [hk, List.drop_length, numv] at hv
      have e3 : max (-4611686018427387904) (min (V : Int) 4611686018427387904) = (V : Int) := by omega
      simp only [s_value_OfInt, Option.bind_some, e3]
      refine W.call (w_put w.length 3 [] _ y a xs (by omega) (by omega) hx) ?_
      rintro _ rfl
      rw [key _ hv]
      exact W.ret.2 rfl
  simp only [W.cond, ltB_iff, ltB_not]
  refine ⟨fun h => ?_, fun h => loop (by omega) _⟩
  obtain ⟨e, he1, he2, he3⟩ := hD 0 (by omega)
  have hh : w.head? = some e := by rw [← he1]; cases w <;> rfl
  have he2 := ix_drop he2
  rw [show (a : Int) + ((0 : Nat) : Int) = (a : Int) by omega] at he2
  simp only [he2, Option.bind_some, W.cond]
  refine ⟨fun h2 => ?_, fun h2 => loop ?_ _⟩
  · simp only [fail_c 4 rfl, Option.bind_some, Sum.elim_inr, W.ret]
    have h48 : e = 48 := by
      have := eq_of_beq h2
      exact UInt8.toNat_inj.1 (by simp only [UInt8.reduceToNat]; omega)
    rw [numR, if_pos ⟨by omega, by rw [hh, h48]⟩]; rfl
  · rintro ⟨_, h3⟩
    rw [hh] at h3
    cases h3
    exact absurd h2 (by decide)

theorem bwO4 {U d : Nat} (h : U * 16 < 18446744073709551616) (hd : d < 16) : bwO .u64 (IntKind.u64.wrap ((U : Int) * 2 ^ 4)) (IntKind.u64.wrap (d : Int)) = ((16 * U + d : Nat) : Int) := by
  have e1 : IntKind.u64.wrap ((U : Int) * 2 ^ 4) = ((2 ^ 4 * U : Nat) : Int) := by rw [IntKind.wrap_u64]; omega
  have e2 : IntKind.u64.wrap (d : Int) = (d : Int) := by rw [IntKind.wrap_u64]; omega
  rw [e1, e2]
  unfold bwO
  rw [BitVec.toNat_or, BitVec.toNat_ofInt, BitVec.toNat_ofInt]
  rw [show IntKind.u64.bits = 64 from rfl]
  rw [show (((2 ^ 4 * U : Nat) : Int) % ((2 ^ 64 : Nat) : Int)).toNat = 2 ^ 4 * U by omega, show ((d : Int) % ((2 ^ 64 : Nat) : Int)).toNat = d by omega]
  rw [← Nat.two_pow_add_eq_or_of_lt (by omega : d < 2 ^ 4), IntKind.wrap_u64]
  omega
theorem pow16 : ∀ k : Nat, k < 16 → 16 ^ k * 16 ≤ 18446744073709551616 := by
  intro k hk
  have : 16 ^ k ≤ 16 ^ 15 := Nat.pow_le_pow_right (by decide) (by omega)
  have h2 : (16 : Nat) ^ 15 = 1152921504606846976 := by decide
  omega
theorem w_double (y : List UInt8) (a : Nat) (xs : List lex_Token) (ha : a < y.length) (hy : y.length ≤ 700) (hx' : xs.length ≤ 700) :
    W (fun N => s_lex_scanner_double_v558 N y a xs) fun r => finA r = stepR y a xs (dblR (y.drop (a + 1))) := by
  simp only [s_lex_scanner_double_v558, W.gd, W.cond, i64b_eq, leB_iff, leB_not]
  refine ⟨by omega, fun h => ?_, fun h => ?_⟩
  · simp only [fail_c 4 rfl, Option.bind_some, Sum.elim_inr, W.ret]
    rw [dblR, if_pos (by rw [List.length_drop]; omega)]; rfl
  · have h0 : ¬ (y.drop (a + 1)).length < 16 := by rw [List.length_drop]; omega
    have key : ∀ v, hexv 0 ((y.drop (a + 1)).take 16) = v → dblR (y.drop (a + 1)) = match v with
        | none => .inr (4, 0)
        | some u => if cln (u : Int) = (u : Int) then .inl (3, [], ⟨3, 0, (u : Int), []⟩, 17) else .inr (4, 0) := fun v hv => by rw [dblR, if_neg h0, hv] <;> cases v <;> rfl
    refine W.lp2 (fun v x => ∃ U k : Nat, v = (U : Int) ∧ x = (k : Int) ∧ k ≤ 16 ∧ U < 16 ^ k ∧ hexv 0 ((y.drop (a + 1)).take 16) = hexv U (((y.drop (a + 1)).take 16).drop k)) (fun _ x => 16 - x.toNat) ⟨0, 0, rfl, rfl, Nat.zero_le _, by decide, rfl⟩ ?_
    rintro F v x ⟨U, k, rfl, rfl, hk, hU, hv⟩ hn
    simp only [s_lex_scanner_double_v558_1, W.cond, W.gd, ltB_iff, ltB_not, i64b_eq]
    refine ⟨fun hlt => ⟨by omega, by omega, ?_⟩, fun hge => ?_⟩
    · obtain ⟨e, he⟩ := drop_get (y := y) (a := a + 1) (k := k) (by omega)
      have he2 : ((y.drop (a + 1)).take 16)[k]? = some e := by rw [List.getElem?_take, if_pos (by omega)]; exact he
      have he3 := ix_drop he
      rw [show ((a + 1 : Nat) : Int) + (k : Int) = (a : Int) + 1 + (k : Int) by omega] at he3
      rw [drop_eq he2, hexv] at hv
      simp only [he3, Option.bind_some, base_c]
      cases hh : hx e with
      | none =>
        rw [hh] at hv
        simp only [show ltB (-1) 0 = true from rfl, cond_true, fail_c 4 rfl, Option.bind_some, Sum.elim_inr, W.ret, key _ hv]
        rfl
      | some d =>
        rw [hh] at hv
        have hd := hx_lt hh
        have hp := pow16 k (by omega)
        simp only [show ltB (d : Int) 0 = false from ltB_not.2 (by omega), cond_false, W.gd, i64b_eq]
        refine ⟨by omega, hn _ _ ⟨16 * U + d, k + 1, bwO4 (by omega) hd, by omega, by omega, ?_, hv⟩ (by omega)⟩
        rw [Nat.pow_succ]; omega
    · have hk : k = 16 := by omega
      have hnil : ((y.drop (a + 1)).take 16).drop 16 = [] := List.drop_eq_nil_of_le (by rw [List.length_take]; omega)
      rw [hk, hnil, hexv] at hv
      simp only [e_real_Clean, Option.bind_some, W.cond]
      refine ⟨fun hne => ?_, fun hne => ?_⟩
      · simp only [fail_c 4 rfl, Option.bind_some, Sum.elim_inr, W.ret, key _ hv]
        rw [if_neg (by simpa using hne)]; rfl
      · have hne : cln (U : Int) = (U : Int) := by simpa using hne
        simp only [s_value_OfReal, e_real_Clean, Option.bind_some, hne]
        refine W.call (w_put 17 3 [] _ y a xs (by omega) (by omega) hx') ?_
        rintro _ rfl
        simp only [key _ hv, hne, if_true]
        exact W.ret.2 rfl

theorem esc_val : ∀ h l : Fin 16, IntKind.u8.wrap (bwO .i64 (IntKind.i64.wrap ((h.val : Int) * 2 ^ 4)) (bwA .i64 (l.val : Int) 15)) = ((16 * h.val + l.val : Nat) : Int) := by decide +kernel
theorem w_escaped (y : List UInt8) (i : Nat) (a : Int) (xs : List lex_Token) (hi : i ≤ y.length) (hy : y.length ≤ 700) :
    W (fun N => s_lex_scanner_escaped_v359 N i y a xs) fun r => r.2.2 = (y, a, xs) ∧ match y.drop i with
      | p :: q :: _ => (match hx p, hx q with
        | some h, some l => r.2.1 = true ∧ r.1 = ((16 * h + l : Nat) : Int)
        | _, _ => r.2.1 = false)
      | _ => r.2.1 = false := by
  simp only [s_lex_scanner_escaped_v359, W.gd, W.cond, i64b_eq, ltB_iff, ltB_not, W.ret]
  refine ⟨by omega, fun h => ⟨trivial, ?_⟩, fun h => ?_⟩
  · have hl : (y.drop i).length < 2 := by rw [List.length_drop]; omega
    split
    · rename_i p q r he; rw [he] at hl; simp only [List.length_cons] at hl; omega
    · trivial
  · obtain ⟨p, hp⟩ := drop_get (y := y) (a := i) (k := 0) (by omega)
    obtain ⟨q, hq⟩ := drop_get (y := y) (a := i) (k := 1) (by omega)
    have e1 := drop_eq hp
    have e2 := drop_eq hq
    rw [List.drop_zero] at e1
    rw [e1, e2]
    have hp := ix_drop hp
    have hq := ix_drop hq
    rw [show (i : Int) + ((0 : Nat) : Int) = (i : Int) by omega] at hp
    rw [show (i : Int) + ((1 : Nat) : Int) = (i : Int) + 1 by omega] at hq
    simp only [hp, hq, Option.bind_some, base_c, W.gd, W.cond, W.ret, i64b_eq, true_and]
    refine ⟨by omega, ?_⟩
    cases h1 : hx p with
    | none => exact ⟨fun h => absurd h (by decide), fun _ => trivial⟩
    | some h =>
      cases h2 : hx q with
      | none => exact ⟨fun _ => rfl, fun _ => trivial⟩
      | some l =>
        have := esc_val ⟨h, hx_lt h1⟩ ⟨l, hx_lt h2⟩
        dsimp only at this ⊢
        exact ⟨fun _ => ⟨leB_iff.2 (Int.natCast_nonneg _), this⟩, fun h => absurd (leB_not.1 h) (Int.not_lt.2 (Int.natCast_nonneg _))⟩
end Go.Proofs.YtmjmbhkohcdlpaaGreatDoor.W
namespace Go.Proofs.YtmjmbhkohcdlpaaGreatDoor.W
open Go
set_option linter.unusedSimpArgs false
set_option linter.unusedVariables false

theorem byS_snoc (b : List Int) (x : Int) : byS (b ++ [x]) = byS b ++ [UInt8.ofNat x.toNat] := by simp [byS]
theorem byS_len (b : List Int) : (byS b).length = b.length := by simp [byS]
theorem u8eq {c : UInt8} {n : Nat} (hn : n < 256) : ((c.toNat : Int) == (n : Int)) = decide (c = UInt8.ofNat n) := by
  by_cases h : c = UInt8.ofNat n
  · subst h
    rw [decide_eq_true rfl, beq_iff_eq]
    simp [Nat.mod_eq_of_lt hn]
  · rw [decide_eq_false h, beq_eq_false_iff_ne]
    intro h2
    refine h (UInt8.toNat_inj.1 ?_)
    simp [Nat.mod_eq_of_lt hn]
    omega
theorem w_quoted (y : List UInt8) (a : Nat) (xs : List lex_Token) (ha : a < y.length) (hy : y.length ≤ 700) (hx' : xs.length ≤ 700) :
    W (fun N => s_lex_scanner_quoted_v558 N y a xs) fun r => finA r = stepR y a xs (quoR (y.drop (a + 1)) 1 []) := by
  simp only [s_lex_scanner_quoted_v558, W.gd, i64b_eq]
  refine ⟨by omega, ?_⟩
  refine W.lp5 (fun i y3 y4 ys b => ∃ j : Nat, i = ((a + j : Nat) : Int) ∧ 1 ≤ j ∧ a + j ≤ y.length ∧ y3 = y ∧ y4 = (a : Int) ∧ ys = xs ∧ b.length ≤ j ∧ quoR (y.drop (a + 1)) 1 [] = quoR (y.drop (a + j)) j (byS b)) (fun i _ _ _ _ => y.length - i.toNat) ⟨1, by omega, Nat.le_refl _, by omega, rfl, rfl, rfl, by simp, rfl⟩ ?_
  rintro F i y3 y4 ys b ⟨j, rfl, hj, hl, rfl, rfl, rfl, hb, hq⟩ hn
  have done : ∀ (n : Nat), n = j + 1 → a + n ≤ y3.length → 24 ≥ b.length → quoR (y3.drop (a + 1)) 1 [] = .inl (3, [], ⟨4, 0, 0, byS b⟩, j + 1) →
      ∀ {ι : Type} [Lim ι] (N : ι → Nat) [Tends N], W (fun i => (s_value_OfText (N i) (byS b)).bind fun o => (s_lex_scanner_put_v420 (N i) (((a + j : Nat) : Int) + 1 - (a : Int)) 3 [] o y3 a ys).bind fun p => some (.inr (.inr (p.1, p.2.1, p.2.2)) : St3 ⊕ Ft ⊕ St3)) fun r => finA r = stepR y3 a ys (quoR (y3.drop (a + 1)) 1 []) := fun n hn h1 h2 h3 {ι} _ N _ => by
    have e1 : s_value_OfText = fun N s => bif (ltB 24 (List.length s : Int)) then gd (leB 24 (List.length s : Int)) (some (value_Value.mk 4 0 0 (List.take 24 s))) else some (value_Value.mk 4 0 0 s) := rfl
    have e2 : ltB 24 ((byS b).length : Int) = false := ltB_not.2 (by rw [byS_len]; omega)
    simp only [e1, e2, cond_false, Option.bind_some]
    rw [show ((a + j : Nat) : Int) + 1 - (a : Int) = ((j + 1 : Nat) : Int) by omega]
    refine W.call (w_put (j + 1) 3 [] _ y3 a ys (by omega) (by omega) hx') ?_
    rintro _ rfl
    rw [h3]
    exact W.ret.2 rfl
  simp only [s_lex_scanner_quoted_v558_1, W.cond, W.gd, ltB_iff, ltB_not, i64b_eq]
  refine ⟨fun hlt => ?_, fun hge => ?_⟩
  rotate_left
  · have hnil : y3.drop (a + j) = [] := List.drop_eq_nil_of_le (by omega)
    rw [hnil, quoR_nil] at hq
    simp only [fail_c 3 rfl, Option.bind_some, Sum.elim_inr, W.ret]
    rw [hq]; rfl
  obtain ⟨c, hc⟩ := drop_get (y := y3) (a := a + j) (k := 0) (by omega)
  have hd := drop_eq hc
  rw [List.drop_zero, List.drop_drop] at hd
  have hc := ix_drop hc
  rw [show ((a + j : Nat) : Int) + ((0 : Nat) : Int) = ((a + j : Nat) : Int) by omega] at hc
  rw [hd] at hq
  have ebig : ∀ e : Int, (e == 0) = false → ∀ p : Int, s_fault_New = fun N e p => bif e == 0 then some (.inl ()) else some (.inr (e, p)) := fun _ _ _ => rfl
  simp only [hc, Option.bind_some, W.cond, ltB_iff, ltB_not]
  refine ⟨fun h1 => ?_, fun h1 => ⟨fun h2 => ?_, fun h2 => ⟨fun h3 => ?_, fun h3 => ⟨fun h4 => ?_, fun h4 => ?_⟩⟩⟩⟩
  · simp only [s_fault_New, show ((10 : Int) == 0) = false from rfl, cond_false, Option.bind_some, Sum.elim_inr, W.ret]
    rw [quoR_cons, if_pos (.inl (by omega))] at hq
    rw [hq]; rfl
  · simp only [s_fault_New, show ((10 : Int) == 0) = false from rfl, cond_false, Option.bind_some, Sum.elim_inr, W.ret]
    rw [quoR_cons, if_pos (.inr (by omega))] at hq
    rw [hq]; rfl
  · -- an escape
    have hc92 : c = 92 := by have := u8eq (c := c) (n := 92) (by omega); rw [show ((92 : Nat) : Int) = 92 from rfl, h3] at this; simpa using this.symm
    rw [quoR_cons, if_neg (by omega), if_pos hc92] at hq
    rw [show ((a + j : Nat) : Int) + 1 = ((a + j + 1 : Nat) : Int) by omega]
    simp only [W.gd, i64b_eq]
    refine ⟨by omega, ?_⟩
    refine W.call (w_escaped y3 (a + j + 1) a ys (by omega) hy) ?_
    rintro ⟨v, is, r3⟩ ⟨hr1, hr2⟩
    dsimp only at hr1 hr2
    subst hr1
    simp only [W.cond, W.gd, i64b_eq, s_fault_New, show ((4 : Int) == 0) = false from rfl, cond_false, Option.bind_some, Sum.elim_inr, W.ret]
    have bad : is = false → quoR (y3.drop (a + 1)) 1 [] = .inr (4, j) → W (fun _ : _ => some (Sum.inr (Sum.inl (4, ((a + j : Nat) : Int), y3, (a : Int), ys)) : St3 ⊕ Ft ⊕ St3)) (ι := Nat) fun r => finA r = stepR y3 a ys (quoR (y3.drop (a + 1)) 1 []) := fun _ h => by rw [h]; exact W.ret.2 rfl
    rcases hdd : y3.drop (a + j + 1) with _ | ⟨p, _ | ⟨q, t⟩⟩
    · rw [hdd] at hr2 hq
      dsimp only at hr2 hq
      subst hr2
      refine ⟨fun _ => by rw [hq]; rfl, fun h => by cases h⟩
    · rw [hdd] at hr2 hq
      dsimp only at hr2 hq
      subst hr2
      refine ⟨fun _ => by rw [hq]; rfl, fun h => by cases h⟩
    · rw [hdd] at hr2 hq
      dsimp only at hr2 hq
      have hlen : (y3.drop (a + j + 1)).length = t.length + 2 := by rw [hdd]; rfl
      rw [List.length_drop] at hlen
      have ht : t = y3.drop (a + (j + 3)) := by
        have : (y3.drop (a + j + 1)).drop 2 = t := by rw [hdd]; rfl
        rw [← this, List.drop_drop]
        congr 1
      cases hp : hx p with
      | none =>
        rw [hp] at hr2 hq
        dsimp only at hr2 hq
        subst hr2
        refine ⟨fun _ => by rw [hq]; rfl, fun h => by cases h⟩
      | some h =>
        cases hq2 : hx q with
        | none =>
          rw [hp, hq2] at hr2 hq
          dsimp only at hr2 hq
          subst hr2
          refine ⟨fun _ => by rw [hq]; rfl, fun h => by cases h⟩
        | some l =>
          rw [hp, hq2] at hr2 hq
          dsimp only at hr2 hq
          obtain ⟨rfl, rfl⟩ := hr2
          refine ⟨fun h => (by cases h), fun _ => ⟨Nat.ble_eq_true_of_le (by omega), by omega, ?_⟩⟩
          refine hn _ _ _ _ _ ⟨j + 3, by omega, by omega, by omega, rfl, rfl, rfl, by simp; omega, ?_⟩ (by omega)
          rw [byS_snoc, Int.toNat_natCast, ← ht]
          exact hq
  · -- a byte as it is
    have h3 : ¬ c = 92 := by have := u8eq (c := c) (n := 92) (by omega); rw [show ((92 : Nat) : Int) = 92 from rfl, h3] at this; simpa using this.symm
    have h4 : ¬ c = 39 := by
      intro h; subst h; exact absurd h4 (by decide)
    rw [quoR_cons, if_neg (by omega), if_neg h3, if_neg h4] at hq
    simp only [W.gd, i64b_eq]
    refine ⟨Nat.ble_eq_true_of_le (by omega), by omega, ?_⟩
    rw [show ((a + j : Nat) : Int) + 1 = ((a + (j + 1) : Nat) : Int) by omega]
    refine hn _ _ _ _ _ ⟨j + 1, rfl, by omega, by omega, rfl, rfl, rfl, by simp; omega, ?_⟩ (by omega)
    rw [byS_snoc, ofN]
    exact hq
  · have h3 : ¬ c = 92 := by have := u8eq (c := c) (n := 92) (by omega); rw [show ((92 : Nat) : Int) = 92 from rfl, h3] at this; simpa using this.symm
    have h39 : c = 39 := by
      have h5 : ((c.toNat : Int) == 39) = true := by cases hh : ((c.toNat : Int) == 39) <;> simp_all
      have := u8eq (c := c) (n := 39) (by omega); rw [show ((39 : Nat) : Int) = 39 from rfl, h5] at this; simpa using this.symm
    subst h39
    rw [quoR_cons, if_neg (by decide), if_neg h3, if_pos rfl] at hq
    have hfin : (¬ 24 < b.length → quoR (y3.drop (a + 1)) 1 [] = .inl (3, [], ⟨4, 0, 0, byS b⟩, j + 1)) → (24 < b.length → quoR (y3.drop (a + 1)) 1 [] = .inr (5, 0)) → ∀ {ι : Type} [Lim ι] (N : ι → Nat) [Tends N],
        (24 < (b.length : Int) → W (fun i => (s_lex_scanner_fail_v359 (N i) 5 y3 a ys).bind fun x => Sum.elim (fun fail => some (Sum.inl (fail.1, fail.2.1, fail.2.2))) (fun fail2 => some (Sum.inr (Sum.inl (fail2.1, fail2.2.1, fail2.2.2.1, fail2.2.2.2.1, fail2.2.2.2.2)))) x) (α := St3 ⊕ Ft ⊕ St3) fun r => finA r = stepR y3 a ys (quoR (y3.drop (a + 1)) 1 [])) := fun _ h2 {ι} _ N _ h => by
      simp only [fail_c 5 rfl, Option.bind_some, Sum.elim_inr, W.ret]
      rw [h2 (by omega)]; rfl
    simp only [W.gd, W.cond, i64b_eq, ltB_iff, ltB_not]
    refine ⟨by omega, fun h5 => ⟨by omega, ?_⟩, fun h5 => ?_⟩
    · obtain ⟨x, hx⟩ := drop_get (y := y3) (a := a + j + 1) (k := 0) (by omega)
      have hdx := drop_eq hx
      rw [List.drop_zero, List.drop_drop] at hdx
      have hx := ix_drop hx
      rw [show ((a + j + 1 : Nat) : Int) + ((0 : Nat) : Int) = ((a + j : Nat) : Int) + 1 by omega] at hx
      rw [hdx] at hq
      dsimp only at hq
      simp only [hx, Option.bind_some, W.cond, W.gd, i64b_eq, ltB_iff, ltB_not]
      refine ⟨fun h6 => ?_, fun h6 => ?_⟩
      · have hx39 : x = 39 := by have := u8eq (c := x) (n := 39) (by omega); rw [show ((39 : Nat) : Int) = 39 from rfl, h6] at this; simpa using this.symm
        rw [if_pos hx39] at hq
        refine ⟨Nat.ble_eq_true_of_le (by omega), by omega, ?_⟩
        refine hn _ _ _ _ _ ⟨j + 2, by omega, by omega, by omega, rfl, rfl, rfl, by simp; omega, ?_⟩ (by omega)
        rw [byS_snoc]
        exact hq
      · have hx39 : ¬ x = 39 := by have := u8eq (c := x) (n := 39) (by omega); rw [show ((39 : Nat) : Int) = 39 from rfl, h6] at this; simpa using this.symm
        rw [if_neg hx39] at hq
        refine ⟨fun h7 => hfin (fun h => absurd (by omega) h) (fun h => by rw [hq, if_pos (by rw [byS_len]; exact h)]) _ h7, fun h7 => ⟨by omega, by omega, ?_⟩⟩
        exact done _ rfl (by omega) (by omega) (by rw [hq, if_neg (by rw [byS_len]; omega)]) _
    · have hnil : y3.drop (a + j + 1) = [] := List.drop_eq_nil_of_le (by omega)
      rw [hnil] at hq
      dsimp only at hq
      refine ⟨fun h7 => hfin (fun h => absurd (by omega) h) (fun h => by rw [hq, if_pos (by rw [byS_len]; exact h)]) _ h7, fun h7 => ⟨by omega, by omega, ?_⟩⟩
      exact done _ rfl (by omega) (by omega) (by rw [hq, if_neg (by rw [byS_len]; omega)]) _
end Go.Proofs.YtmjmbhkohcdlpaaGreatDoor.W
namespace Go.Proofs.YtmjmbhkohcdlpaaGreatDoor.W
open Go
set_option linter.unusedSimpArgs false
set_option linter.unusedVariables false

theorem sub_take {y : List UInt8} {a m : Nat} : List.drop (Int.toNat (a : Int)) (List.take (Int.toNat ((a : Int) + (m : Int))) y) = (y.drop a).take m := by
  rw [show Int.toNat ((a : Int) + (m : Int)) = a + m by omega, Int.toNat_natCast, List.drop_take, Nat.add_sub_cancel_left]
def sigR (c : UInt8) (t : List UInt8) : List UInt8 := if isC c ∧ t.head? = some 61 then [c, 61] else [c]
theorem signR_eq (c : UInt8) (t : List UInt8) : signR c t = .inl (4, sigR c t, zv, (sigR c t).length) := by
  unfold signR sigR; split <;> rfl
theorem w_sign (y : List UInt8) (a : Nat) (xs : List lex_Token) (c : UInt8) (t : List UInt8) (hd : y.drop a = c :: t) (hy : y.length ≤ 700) (hx' : xs.length ≤ 700) :
    W (fun N => s_lex_scanner_sign_v558 N y a xs) (· = (y, ((a + (sigR c t).length : Nat) : Int), xs ++ [⟨4, (a : Int), sigR c t, zv⟩])) := by
  have hl : (y.drop a).length = t.length + 1 := by rw [hd]; rfl
  rw [List.length_drop] at hl
  have hc : ix y (a : Int) = some c := by
    have := ix_drop (y := y) (a := a) (k := 0) (e := c) (by rw [hd]; rfl)
    rwa [show (a : Int) + ((0 : Nat) : Int) = (a : Int) by omega] at this
  have t1 := sub_take (y := y) (a := a) (m := 1)
  have t2 := sub_take (y := y) (a := a) (m := 2)
  rw [hd] at t1 t2
  rw [show ((1 : Nat) : Int) = 1 from rfl] at t1
  rw [show ((2 : Nat) : Int) = 2 from rfl] at t2
  have put : ∀ (x : List UInt8) (n : Nat), x = sigR c t → n = (sigR c t).length → n ≤ 2 → ∀ {ι : Type} [Lim ι] (N : ι → Nat) [Tends N], W (fun i => (s_lex_scanner_put_v420 (N i) (n : Int) 4 x (value_Value.mk 0 0 0 []) y a xs).bind fun p => some ((p.1, p.2.1, p.2.2) : St3)) (· = (y, ((a + (sigR c t).length : Nat) : Int), xs ++ [⟨4, (a : Int), sigR c t, zv⟩])) := fun x n h1 h2 h3 {ι} _ N _ => by
    refine W.call (w_put n 4 x _ y a xs (by omega) (by omega) hx') ?_
    rintro _ rfl
    subst h1
    rw [h2]
    exact W.ret.2 rfl
  simp only [s_lex_scanner_sign_v558, hc, Option.bind_some, index_c, W.cond, W.gd, i64b_eq, leB_iff, ltB_iff, ltB_not]
  rw [show (leB 0 (Lib.indexByte [33, 60, 62] c)) = isC c from rfl] at *
  have one : (t.head? = some 61 → isC c = false) → sigR c t = [c] := fun h => by
    rw [sigR, if_neg]; rintro ⟨h1, h2⟩; rw [h h2] at h1; cases h1
  refine ⟨fun h => ⟨by omega, fun h2 => ⟨by omega, ?_⟩, fun h2 => ⟨by omega, by omega, by omega, by omega, ?_⟩⟩, fun h => ⟨by omega, by omega, by omega, by omega, ?_⟩⟩
  · cases t with
    | nil => simp at hl; omega
    | cons d t =>
      have hd1 := ix_drop (y := y) (a := a) (k := 1) (e := d) (by rw [hd]; rfl)
      rw [show (a : Int) + ((1 : Nat) : Int) = (a : Int) + 1 by omega] at hd1
      simp only [hd1, Option.bind_some, W.cond, W.gd, i64b_eq, leB_iff]
      refine ⟨fun h3 => ⟨by omega, by omega, by omega, by omega, ?_⟩, fun h3 => ⟨by omega, by omega, by omega, by omega, ?_⟩⟩
      · have h61 : d = 61 := by have := u8eq (c := d) (n := 61) (by omega); rw [show ((61 : Nat) : Int) = 61 from rfl, h3] at this; simpa using this.symm
        subst h61
        have hs : sigR c (61 :: t) = [c, 61] := by rw [sigR, if_pos ⟨leB_iff.2 h, rfl⟩]
        rw [t2]
        exact put _ 2 (by rw [hs]; rfl) (by rw [hs]; rfl) (by omega) _
      · have h61 : ¬ d = 61 := by have := u8eq (c := d) (n := 61) (by omega); rw [show ((61 : Nat) : Int) = 61 from rfl, h3] at this; simpa using this.symm
        have hs := one (fun h => by cases h; exact absurd rfl h61)
        rw [t1]
        exact put _ 1 (by rw [hs]; rfl) (by rw [hs]; rfl) (by omega) _
  · have hs := one (fun h => by cases t with | nil => cases h | cons d t => simp at hl; omega)
    rw [t1]
    exact put _ 1 (by rw [hs]; rfl) (by rw [hs]; rfl) (by omega) _
  · have h : isC c = false := by
      cases hh : isC c with
      | false => rfl
      | true => exact absurd (leB_iff.1 (show leB 0 (Lib.indexByte [33, 60, 62] c) = true from hh)) (by have := leB_not.1 h; omega)
    have hs := one (fun _ => h)
    rw [t1]
    exact put _ 1 (by rw [hs]; rfl) (by rw [hs]; rfl) (by omega) _

theorem w_token (y : List UInt8) (a : Nat) (xs : List lex_Token) (c : UInt8) (t : List UInt8) (hd : y.drop a = c :: t) (hy : y.length ≤ 700) (hx' : xs.length ≤ 200) :
    W (fun N => s_lex_scanner_token_v558 N y a xs) fun r => finA r = if known c && decide (xs.length = 200) then .inr (7, (a : Int)) else stepR y a xs (oneR (c :: t)) := by
  have hl : (y.drop a).length = t.length + 1 := by rw [hd]; rfl
  rw [List.length_drop] at hl
  have ha : a < y.length := by omega
  have hd1 : y.drop (a + 1) = t := by
    have : (y.drop a).drop 1 = t := by rw [hd]; rfl
    rw [← this, List.drop_drop]
  have hc : ix y (a : Int) = some c := by
    have := ix_drop (y := y) (a := a) (k := 0) (e := c) (by rw [hd]; rfl)
    rwa [show (a : Int) + ((0 : Nat) : Int) = (a : Int) by omega] at this
  have e200 : ((xs.length : Int) == 200) = decide (xs.length = 200) := by
    by_cases h : xs.length = 200
    · rw [decide_eq_true h, beq_iff_eq]; omega
    · rw [decide_eq_false h, beq_eq_false_iff_ne]; omega
  have full : ∀ {Q : St3 ⊕ Ft ⊕ St3 → Prop}, Q (.inr (.inl (7, (a : Int), y, (a : Int), xs))) → ∀ {ι : Type} [Lim ι] (N : ι → Nat) [Tends N], W (fun i => (s_lex_scanner_fail_v359 (N i) 7 y a xs).bind fun x => Sum.elim (fun fail => some (Sum.inl (fail.1, fail.2.1, fail.2.2))) (fun fail2 => some (Sum.inr (Sum.inl (fail2.1, fail2.2.1, fail2.2.2.1, fail2.2.2.2.1, fail2.2.2.2.2)))) x) Q := fun {Q} h {ι} _ N _ => by
    simp only [fail_c 7 rfl, Option.bind_some, Sum.elim_inr]
    exact W.ret.2 h
  simp only [s_lex_scanner_token_v558, hc, Option.bind_some, small_c, digit_c, index_c, e200]
  simp only [show ∀ c, (leB 0 (Lib.indexByte [40, 41, 91, 93, 123, 125, 59, 124, 33, 58, 44, 46, 43, 42, 63, 45, 61, 60, 62] c)) = isG c from fun _ => rfl]
  have kn : ∀ {b : Bool}, known c = b → known c = b := id
  by_cases hS : isS c = true
  · have hk : known c = true := by simp [known, hS]
    simp only [hS, hk, cond_true, Bool.true_and, oneR, if_true]
    refine W.cond.2 ⟨fun h => full (by simp only [h, if_true]; rfl) _, fun h => ?_⟩
    simp only [h, Bool.false_eq_true, if_false]
    refine W.call (w_word y a xs (by omega) hy (by omega)) ?_
    rw [hd]
    rintro (r | r | r) hr <;> simp only [Sum.elim_inl, Sum.elim_inr, W.ret] <;> exact hr
  have hS := eq_false_of_ne_true hS
  by_cases hD : isD c = true
  · have hk : known c = true := by simp [known, hD]
    simp only [hS, hD, hk, cond_true, cond_false, Bool.true_and, oneR, if_true, Bool.false_eq_true, if_false]
    refine W.cond.2 ⟨fun h => full (by simp only [h, if_true]; rfl) _, fun h => ?_⟩
    simp only [h, Bool.false_eq_true, if_false]
    refine W.call (w_number y a xs (by omega) hy (by omega)) ?_
    rw [hd]
    rintro (r | r | r) hr <;> simp only [Sum.elim_inl, Sum.elim_inr, W.ret] <;> exact hr
  have hD := eq_false_of_ne_true hD
  by_cases h35 : ((c.toNat : Int) == 35) = true
  · have hk : known c = true := by simp [known, h35]
    simp only [hS, hD, h35, hk, cond_true, cond_false, Bool.true_and, oneR, if_true, Bool.false_eq_true, if_false]
    refine W.cond.2 ⟨fun h => full (by simp only [h, if_true]; rfl) _, fun h => ?_⟩
    simp only [h, Bool.false_eq_true, if_false]
    refine W.call (w_double y a xs (by omega) hy (by omega)) ?_
    rw [hd1]
    rintro (r | r | r) hr <;> simp only [Sum.elim_inl, Sum.elim_inr, W.ret] <;> exact hr
  have h35 := eq_false_of_ne_true h35
  by_cases h39 : ((c.toNat : Int) == 39) = true
  · have hk : known c = true := by simp [known, h39]
    simp only [hS, hD, h35, h39, hk, cond_true, cond_false, Bool.true_and, oneR, if_true, Bool.false_eq_true, if_false]
    refine W.cond.2 ⟨fun h => full (by simp only [h, if_true]; rfl) _, fun h => ?_⟩
    simp only [h, Bool.false_eq_true, if_false]
    refine W.call (w_quoted y a xs (by omega) hy (by omega)) ?_
    rw [hd1]
    rintro (r | r | r) hr <;> simp only [Sum.elim_inl, Sum.elim_inr, W.ret] <;> exact hr
  have h39 := eq_false_of_ne_true h39
  by_cases hG : isG c = true
  · have hk : known c = true := by simp [known, hG]
    simp only [hS, hD, h35, h39, hG, hk, cond_true, cond_false, Bool.true_and, oneR, if_true, Bool.false_eq_true, if_false, Bool.not_true]
    refine W.cond.2 ⟨fun h => full (by simp only [h, if_true]; rfl) _, fun h => ?_⟩
    simp only [h, Bool.false_eq_true, if_false]
    refine W.call (w_sign y a xs c t hd hy (by omega)) ?_
    rintro _ rfl
    rw [signR_eq]
    exact W.ret.2 rfl
  have hG := eq_false_of_ne_true hG
  have hk : known c = false := by simp [known, hS, hD, h35, h39, hG]
  simp only [hS, hD, h35, h39, hG, hk, cond_true, cond_false, Bool.false_and, oneR, Bool.false_eq_true, if_false, Bool.not_false, fail_c 10 rfl, Option.bind_some, Sum.elim_inr, W.ret]
  rfl

theorem oneR_len {r : List UInt8} {k : Int} {x : List UInt8} {v : value_Value} {m : Nat} (h : oneR r = .inl (k, x, v, m)) : True := trivial
theorem scanR_nil (p : Nat) (out : List lex_Token) : scanR [] p out = .inl out := by rw [scanR.eq_def]
theorem scanR_cons (c : UInt8) (t : List UInt8) (p : Nat) (out : List lex_Token) : scanR (c :: t) p out =
    if blank c then scanR t (p + 1) out
    else if known c && decide (out.length = 200) then .inr (7, (p : Int))
    else match oneR (c :: t) with
      | .inr (e, o) => .inr (e, ((p + o : Nat) : Int))
      | .inl (k, x, v, m) => scanR (t.drop (m - 1)) (p + m) (out ++ [⟨k, (p : Int), x, v⟩]) := by
  rw [scanR.eq_def] <;> rfl
def scanE : List lex_Token ⊕ (Int × Int) → List lex_Token ⊕ (List lex_Token × Int × Int)
  | .inl l => .inl l
  | .inr (e, a) => .inr ([], e, a)
/-- The length of a token lies within the text, and is not nothing. -/
theorem quoR_len : ∀ (n : Nat) (t : List UInt8), t.length ≤ n → ∀ {off : Nat} {b : List UInt8} {k : Int} {x : List UInt8} {v : value_Value} {m : Nat}, 1 ≤ off → quoR t off b = .inl (k, x, v, m) → off < m ∧ m ≤ off + t.length
  | n, [], _, off, b, k, x, v, m, _, h => by rw [quoR_nil] at h; cases h
  | 0, c :: t, hn, _, _, _, _, _, _, _, _ => by simp at hn
  | n + 1, c :: t, hn, off, b, k, x, v, m, ho, h => by
    simp only [List.length_cons, Nat.add_le_add_iff_right] at hn
    rw [quoR_cons] at h
    split at h
    · cases h
    · split at h
      · split at h
        · rename_i p q t'
          split at h
          · have := quoR_len n _ (by simp at hn; omega) (by omega) h
            simp only [List.length_cons]; omega
          · cases h
        · cases h
      · split at h
        · split at h
          · rename_i p t'
            split at h
            · have := quoR_len n _ (by simp at hn; omega) (by omega) h
              simp only [List.length_cons]; omega
            · split at h
              · cases h
              · cases h; simp only [List.length_cons]; omega
          · split at h
            · cases h
            · cases h; simp only [List.length_cons, List.length_nil]; omega
        · have := quoR_len n _ hn (by omega) h
          simp only [List.length_cons]; omega
theorem oneR_m {c : UInt8} {t : List UInt8} {k : Int} {x : List UInt8} {v : value_Value} {m : Nat} (h : oneR (c :: t) = .inl (k, x, v, m)) : 1 ≤ m ∧ m ≤ t.length + 1 := by
  simp only [oneR] at h
  split at h
  · rename_i hs
    have h1 : 1 ≤ ((c :: t).takeWhile isT).length := by rw [List.takeWhile_cons, if_pos (by simp [isT, hs])]; simp
    have h2 := tw_le isT (c :: t)
    simp only [List.length_cons] at h2
    unfold wordR at h
    repeat' split at h
    all_goals first | (cases h; omega) | cases h
  · split at h
    · rename_i hs
      have h1 : 1 ≤ ((c :: t).takeWhile isD).length := by rw [List.takeWhile_cons, if_pos hs]; simp
      have h2 := tw_le isD (c :: t)
      simp only [List.length_cons] at h2
      unfold numR at h
      repeat' split at h
      all_goals first | (cases h; omega) | cases h
    · split at h
      · unfold dblR at h
        split at h
        · cases h
        · split at h
          · cases h
          · split at h
            · cases h; omega
            · cases h
      · split at h
        · have := quoR_len _ t (Nat.le_refl _) (by omega) h
          omega
        · split at h
          · rename_i hg
            rw [signR_eq] at h
            cases h
            unfold sigR
            split
            · rename_i hh
              cases t with
              | nil => cases hh.2
              | cons => simp
            · simp
          · cases h
theorem blank_c (c : UInt8) : blank c = (((c.toNat : Int) == 32) || ((c.toNat : Int) == 9) || ((c.toNat : Int) == 10)) := rfl
theorem w_Scan (s : List UInt8) (hs : s.length ≤ 700) : W (fun N => s_lex_Scan N s) (· = scanE (scan s)) := by
  simp only [s_lex_Scan, W.cond, ltB_iff, ltB_not, scan]
  refine ⟨fun h => ?_, fun h => ?_⟩
  · simp only [s_fault_New, show ((5 : Int) == 0) = false from rfl, cond_false, Option.bind_some, Sum.elim_inr, W.ret]
    rw [if_pos (by omega)]; rfl
  · rw [if_neg (by omega)]
    refine W.lp3 (fun y p ys => ∃ a : Nat, p = (a : Int) ∧ y = s ∧ a ≤ s.length ∧ ys.length ≤ 200 ∧ scanR s 0 [] = scanR (s.drop a) a ys) (fun _ p _ => s.length - p.toNat) ⟨0, rfl, rfl, Nat.zero_le _, by simp, rfl⟩ ?_
    rintro F y p ys ⟨a, rfl, rfl, ha, hl, hq⟩ hn
    simp only [s_lex_Scan_1, W.cond, ltB_iff, ltB_not]
    refine ⟨fun h1 => ?_, fun h1 => ?_⟩
    · obtain ⟨c, hc⟩ := drop_get (y := y) (a := a) (k := 0) (by omega)
      have hd := drop_eq hc
      rw [List.drop_zero, List.drop_drop] at hd
      have hc := ix_drop hc
      rw [show (a : Int) + ((0 : Nat) : Int) = (a : Int) by omega] at hc
      rw [hd, scanR_cons] at hq
      have skip : blank c = true → W (fun p : Nat × Nat => F p y ((a : Int) + 1) ys) fun r => r = scanE (scanR y 0 []) := fun hb => by
        rw [show (a : Int) + 1 = ((a + 1 : Nat) : Int) by omega]
        rw [if_pos hb] at hq
        exact hn _ _ _ ⟨a + 1, rfl, rfl, by omega, hl, hq⟩ (by omega)
      simp only [hc, Option.bind_some, W.cond, W.gd, i64b_eq]
      refine ⟨fun h => ⟨by omega, skip (by simp [blank, h])⟩, fun h2 => ⟨fun h => ⟨by omega, skip (by simp [blank, h])⟩, fun h3 => ⟨fun h => ⟨by omega, skip (by simp [blank, h])⟩, fun h4 => ?_⟩⟩⟩
      rw [if_neg (by simp only [blank, h2, h3, h4]; decide)] at hq
      refine W.call (w_token y a ys c _ hd (by omega) hl) ?_
      intro r hr
      by_cases hfull : (known c && decide (ys.length = 200)) = true
      · rw [if_pos hfull] at hr hq
        rcases r with r | ⟨e1, p1, r⟩ | r
        · cases hr
        · simp only [Sum.elim_inl, Sum.elim_inr, W.ret]
          simp only [finA] at hr
          cases hr
          rw [hq]; rfl
        · cases hr
      · rw [if_neg hfull] at hr hq
        cases ho : oneR (c :: y.drop (a + 1)) with
        | inr f =>
          obtain ⟨e, o⟩ := f
          rw [ho] at hr hq
          rcases r with r | ⟨e1, p1, r⟩ | r
          · cases hr
          · simp only [Sum.elim_inl, Sum.elim_inr, W.ret]
            simp only [finA, stepR] at hr
            cases hr
            rw [hq]; rfl
          · cases hr
        | inl f =>
          obtain ⟨k, x, v, m⟩ := f
          rw [ho] at hr hq
          dsimp only at hq
          have hm := oneR_m ho
          rw [List.length_drop] at hm
          have hlen : ys.length < 200 := by
            have hk : known c = true := by
              cases hk : known c with
              | true => rfl
              | false =>
                simp only [known, Bool.or_eq_false_iff] at hk
                simp only [oneR, hk.1.1.1.1, hk.1.1.1.2, hk.1.1.2, hk.1.2, hk.2, Bool.false_eq_true, if_false] at ho
                cases ho
            rw [hk] at hfull
            simp only [Bool.true_and, decide_eq_true_eq] at hfull
            omega
          rw [List.drop_drop, show a + 1 + (m - 1) = a + m by omega] at hq
          have next : W (fun p : Nat × Nat => F p y ((a + m : Nat) : Int) (ys ++ [⟨k, (a : Int), x, v⟩])) fun r => r = scanE (scanR y 0 []) := hn _ _ _ ⟨a + m, rfl, rfl, by omega, by simp; omega, hq⟩ (by omega)
          rcases r with r | r | r
          · simp only [finA, stepR] at hr
            cases hr
            simp only [Sum.elim_inl]; exact next
          · cases hr
          · simp only [finA, stepR] at hr
            cases hr
            simp only [Sum.elim_inr]; exact next
    · have hnil : y.drop a = [] := List.drop_eq_nil_of_le (by omega)
      rw [hnil, scanR_nil] at hq
      rw [hq]; exact W.ret.2 rfl
end Go.Proofs.YtmjmbhkohcdlpaaGreatDoor.W
namespace Go.Proofs.YtmjmbhkohcdlpaaGreatDoor.W
open Go
set_option linter.unusedSimpArgs false
set_option linter.unusedVariables false

theorem w_rin (c : UInt8) (s : List UInt8) (hs : s.length ≤ 700) : W (fun N => s_ref10_in N (c.toNat : Int) s) (· = s.any (· == c)) := by
  refine wr1 (l := s) (fun _ rest => rest.any (· == c)) [] s rfl rfl (by omega) ?_ ?_
  · intro F pre e rest hl h1 h2 h3 hn
    have he : ((e.toNat : Int) == (c.toNat : Int)) = (e == c) := by
      cases h : e == c with
      | true => rw [eq_of_beq h]; simp
      | false =>
        rw [beq_eq_false_iff_ne]
        intro h2
        have : e = c := UInt8.toNat_inj.1 (by omega)
        rw [this] at h; simp at h
    simp only [s_ref10_in_1, h1, h2, h3, Option.bind_some, cond_true, W.cond, W.ret, gd_true, List.any_cons, he]
    exact ⟨fun h => by simp [h], fun h => by simp only [h, Bool.false_or]; exact hn⟩
  · intro F h1
    simp only [s_ref10_in_1, h1, cond_false, W.ret, List.any_nil]
def hexs : List UInt8 := [48, 49, 50, 51, 52, 53, 54, 55, 56, 57, 97, 98, 99, 100, 101, 102]
theorem in_S : ∀ c : UInt8, List.any [97, 98, 99, 100, 101, 102, 103, 104, 105, 106, 107, 108, 109, 110, 111, 112, 113, 114, 115, 116, 117, 118, 119, 120, 121, 122] (· == c) = isS c := byte_all (by decide +kernel)
theorem in_D : ∀ c : UInt8, List.any [48, 49, 50, 51, 52, 53, 54, 55, 56, 57] (· == c) = isD c := byte_all (by decide +kernel)
theorem in_T : ∀ c : UInt8, List.any [97, 98, 99, 100, 101, 102, 103, 104, 105, 106, 107, 108, 109, 110, 111, 112, 113, 114, 115, 116, 117, 118, 119, 120, 121, 122, 48, 49, 50, 51, 52, 53, 54, 55, 56, 57, 95] (· == c) = isT c := byte_all (by decide +kernel)
def isH (c : UInt8) : Bool := (hx c).isSome
theorem in_H : ∀ c : UInt8, List.any [48, 49, 50, 51, 52, 53, 54, 55, 56, 57, 97, 98, 99, 100, 101, 102] (· == c) = isH c := byte_all (by decide +kernel)
theorem in_G : ∀ c : UInt8, List.any [40, 41, 91, 93, 123, 125, 59, 124, 33, 58, 44, 46, 43, 42, 63, 45, 61, 60, 62] (· == c) = isG c := byte_all (by decide +kernel)
theorem in_C : ∀ c : UInt8, List.any [33, 60, 62] (· == c) = isC c := byte_all (by decide +kernel)
theorem in_K : ∀ c : UInt8, List.any [97, 98, 99, 100, 101, 102, 103, 104, 105, 106, 107, 108, 109, 110, 111, 112, 113, 114, 115, 116, 117, 118, 119, 120, 121, 122, 48, 49, 50, 51, 52, 53, 54, 55, 56, 57, 40, 41, 91, 93, 123, 125, 59, 124, 33, 58, 44, 46, 43, 42, 63, 45, 61, 60, 62, 35, 39] (· == c) = known c := byte_all (by decide +kernel)
theorem w_run (p : UInt8 → Bool) (set : List UInt8) (hp : ∀ c, set.any (· == c) = p c) (hl : set.length ≤ 700) (y : List UInt8) (a : Nat) (ha : a ≤ y.length) (hy : y.length ≤ 700) :
    W (fun N => s_ref10_run N y a set) (· = (((y.drop a).takeWhile p).length : Int)) := by
  have hl' := tw_le p (y.drop a)
  rw [List.length_drop] at hl'
  simp only [s_ref10_run]
  refine W.lp1 (fun v : Int => ∃ k : Nat, v = k ∧ k ≤ ((y.drop a).takeWhile p).length) (fun v : Int => ((y.drop a).takeWhile p).length - v.toNat) ⟨0, rfl, Nat.zero_le _⟩ ?_
  rintro F v ⟨k, rfl, hk⟩ hn
  simp only [s_ref10_run_1, W.gd, W.cond, i64b_eq, ltB_iff, ltB_not, W.ret]
  refine ⟨by omega, fun h => ⟨by omega, ?_⟩, fun h => by rw [show k = ((y.drop a).takeWhile p).length by omega]⟩
  obtain ⟨e, he⟩ := drop_get (y := y) (a := a) (k := k) (by omega)
  have hpe := tw_at hk he
  simp only [ix_drop he, Option.bind_some]
  refine W.call (w_rin e set hl) ?_
  rintro _ rfl
  simp only [hp, hpe, W.cond, W.gd, decide_eq_true_eq, decide_eq_false_iff_not, W.ret, i64b_eq]
  refine ⟨fun h2 => ⟨by omega, hn _ ⟨k + 1, by omega, h2⟩ (by omega)⟩, fun h2 => by rw [show k = ((y.drop a).takeWhile p).length by omega]⟩
theorem hex_at : ∀ c : UInt8, ∀ k : Fin 16, ∃ e, hexs[k.val]? = some e ∧ ((e.toNat : Int) == (c.toNat : Int)) = decide (hx c = some k.val) := by
  have : ∀ n : Fin 256, ∀ k : Fin 16, (match hexs[k.val]? with | some e => (((e.toNat : Int) == ((UInt8.ofNat n.val).toNat : Int)) == decide (hx (UInt8.ofNat n.val) = some k.val)) | none => false) = true := by decide +kernel
  intro c k
  have := byte_all (P := fun c => ∀ k : Fin 16, (match hexs[k.val]? with | some e => (((e.toNat : Int) == (c.toNat : Int)) == decide (hx c = some k.val)) | none => false) = true) this c k
  split at this
  · rename_i e he; exact ⟨e, he, eq_of_beq this⟩
  · cases this
theorem w_worth (c : UInt8) : W (fun N => s_ref10_worth N (c.toNat : Int)) (· = match hx c with | some d => (d : Int) | none => 0) := by
  simp only [s_ref10_worth]
  refine W.lp1 (fun v : Int => ∃ k : Nat, v = k ∧ k ≤ 16 ∧ ∀ d, hx c = some d → k ≤ d) (fun v : Int => 16 - v.toNat) ⟨0, rfl, Nat.zero_le _, fun _ _ => Nat.zero_le _⟩ ?_
  rintro F v ⟨k, rfl, hk, hd⟩ hn
  simp only [s_ref10_worth_1, W.gd, W.cond, i64b_eq, ltB_iff, ltB_not, W.ret]
  refine ⟨fun h => ?_, fun h => ?_⟩
  · obtain ⟨e, he, heq⟩ := hex_at c ⟨k, by omega⟩
    have he : ix ([48, 49, 50, 51, 52, 53, 54, 55, 56, 57, 97, 98, 99, 100, 101, 102] : List UInt8) (k : Int) = some e := by rw [ix_nat']; exact he
    simp only [he, Option.bind_some, heq, W.cond, W.gd, W.ret, i64b_eq, decide_eq_true_eq, decide_eq_false_iff_not]
    refine ⟨fun h2 => by rw [h2], fun h2 => ⟨by omega, hn _ ⟨k + 1, by omega, by omega, fun d h3 => ?_⟩ (by omega)⟩⟩
    have := hd d h3
    have : k ≠ d := by rintro rfl; exact h2 h3
    omega
  · cases hh : hx c with
    | none => rfl
    | some d => have := hd d hh; have := hx_lt hh; omega

def z3 : lex_Token := ⟨0, 0, [], zv⟩
def r3 (a : Nat) : R1 → lex_Token × Int × Int
  | .inl (k, x, v, m) => (⟨k, (a : Int), x, v⟩, (m : Int), 0)
  | .inr (e, o) => (z3, 0, e)
def r4 (a : Nat) : R1 → lex_Token × Int × fault_Fault
  | .inl (k, x, v, m) => (⟨k, (a : Int), x, v⟩, (m : Int), ⟨0, 0⟩)
  | .inr (e, o) => (z3, 0, ⟨e, ((a + o : Nat) : Int)⟩)
theorem w_resv (s : List UInt8) : W (fun N => s_ref06_Reserved N s) (· = resv s) := by
  refine wr1 (l := resl) (fun _ rest => rest.any (s == ·)) [] resl rfl rfl (by decide) ?_ ?_
  · intro F pre e rest hl h1 h2 h3 hn
    have hb : (e == s) = (s == e) := by
      cases h : s == e with
      | true => rw [eq_of_beq h]; simp
      | false => rw [beq_eq_false_iff_ne] at h ⊢; exact fun h' => h h'.symm
    simp only [resl] at h1 h2
    simp only [s_ref06_Reserved_1, h1, h2, h3, Option.bind_some, cond_true, W.cond, W.ret, gd_true, List.any_cons, hb]
    exact ⟨fun h => by simp [h], fun h => by simp only [h, Bool.false_or]; exact hn⟩
  · intro F h1
    simp only [resl] at h1
    simp only [resl, s_ref06_Reserved_1, h1, cond_false, W.ret, List.any_nil]
theorem w_rword (y : List UInt8) (a : Nat) (ha : a ≤ y.length) (hy : y.length ≤ 700) : W (fun N => s_ref10_word N y a) (· = r3 a (wordR ((y.drop a).takeWhile isT))) := by
  have hl := tw_le isT (y.drop a)
  rw [List.length_drop] at hl
  simp only [s_ref10_word]
  refine W.call (w_run isT _ in_T (by decide) y a ha hy) ?_
  rintro _ rfl
  have hw : List.drop (Int.toNat (a : Int)) (List.take (Int.toNat ((a : Int) + (((y.drop a).takeWhile isT).length : Nat))) y) = (y.drop a).takeWhile isT := by rw [sub_take]; exact tw_take _ _
  simp only [W.gd, W.cond, W.ret, i64b_eq, leB_iff, hw]
  generalize (y.drop a).takeWhile isT = w at *
  refine ⟨by omega, by omega, by omega, by omega, fun h => ?_, fun h => ⟨fun h2 => ?_, fun h2 => ?_⟩⟩
  · have h := eq_of_beq h
    subst h
    exact W.ret.2 rfl
  · have h2 := eq_of_beq h2
    subst h2
    exact W.ret.2 rfl
  · have h : ¬ w = [116, 114, 117, 101] := by simpa using h
    have h2 : ¬ w = [102, 97, 108, 115, 101] := by simpa using h2
    refine W.call (w_resv w) ?_
    rintro _ rfl
    simp only [W.cond, W.ret, ltB_iff, ltB_not]
    refine ⟨fun h3 => by rw [wordR, if_neg h, if_neg h2, if_pos h3]; rfl, fun h3 => ⟨fun h4 => ?_, fun h4 => ?_⟩⟩
    · rw [wordR, if_neg h, if_neg h2, if_neg (by simp [h3]), if_pos (by omega)]; rfl
    · rw [wordR, if_neg h, if_neg h2, if_neg (by simp [h3]), if_neg (by omega)]; rfl
theorem w_rnumber (y : List UInt8) (a : Nat) (ha : a < y.length) (hy : y.length ≤ 700) : W (fun N => s_ref10_number N y a) (· = r3 a (numR ((y.drop a).takeWhile isD))) := by
  have hl := tw_le isD (y.drop a)
  rw [List.length_drop] at hl
  simp only [s_ref10_number]
  refine W.call (w_run isD _ in_D (by decide) y a (Nat.le_of_lt ha) hy) ?_
  rintro _ rfl
  have hD : ∀ k, k < ((y.drop a).takeWhile isD).length → ∃ e, ((y.drop a).takeWhile isD)[k]? = some e ∧ (y.drop a)[k]? = some e ∧ isD e = true := fun k hk => by
    obtain ⟨e, he⟩ := drop_get (y := y) (a := a) (k := k) (by omega)
    exact ⟨e, (tw_get hk).trans he, he, by rw [tw_at (Nat.le_of_lt hk) he]; exact decide_eq_true hk⟩
  generalize (y.drop a).takeWhile isD = w at *
  have loop : ¬ (1 < w.length ∧ w.head? = some 48) → ∀ {ι : Type} [Lim ι] (N : ι → Nat) [Tends N], W (fun i => lp2 (s_ref10_number_1 (N i) y (a : Int) (w.length : Int)) (N i) 0 (a : Int)) (· = r3 a (numR w)) := fun h0 {ι} _ N _ => by
    have key : ∀ v, numv 0 w = v → numR w = match v with
        | none => .inr (8, 0)
        | some v => .inl (3, [], ⟨1, (v : Int), 0, []⟩, w.length) := fun v hv => by rw [numR, if_neg h0, hv] <;> cases v <;> rfl
    refine W.lp2 (fun v x => ∃ V k : Nat, v = (V : Int) ∧ x = (a : Int) + (k : Int) ∧ k ≤ w.length ∧ V ≤ 4611686018427387904 ∧ numv 0 w = numv V (w.drop k)) (fun _ x => a + w.length - x.toNat) ⟨0, 0, rfl, by omega, Nat.zero_le _, by omega, rfl⟩ ?_
    rintro F v x ⟨V, k, rfl, rfl, hk, hV, hv⟩ hn
    simp only [s_ref10_number_1, W.cond, W.gd, ltB_iff, ltB_not, i64b_eq]
    refine ⟨by omega, fun hlt => ?_, fun hge => ?_⟩
    · obtain ⟨e, he1, he2, he3⟩ := hD k (by omega)
      have h48 := isD_iff.1 he3
      have e1 : IntKind.i64.wrap (e.toNat : Int) - 48 = ((e.toNat - 48 : Nat) : Int) := by rw [IntKind.wrap_i64]; omega
      have e2 : IntKind.i64.wrap (Int.tdiv (4611686018427387904 - ((e.toNat - 48 : Nat) : Int)) 10) = (((4611686018427387904 - (e.toNat - 48)) / 10 : Nat) : Int) := by
        rw [show (4611686018427387904 : Int) - ((e.toNat - 48 : Nat) : Int) = ((4611686018427387904 - (e.toNat - 48) : Nat) : Int) by omega]
        rw [show Int.tdiv ((4611686018427387904 - (e.toNat - 48) : Nat) : Int) 10 = (((4611686018427387904 - (e.toNat - 48)) / 10 : Nat) : Int) from rfl, IntKind.wrap_i64]
        omega
      rw [drop_eq he1, numv] at hv
      simp only [ix_drop he2, Option.bind_some, e1, e2, W.gd, W.cond, i64b_eq, ltB_iff, ltB_not]
      have hd : e.toNat - 48 ≤ 9 := by omega
      generalize e.toNat - 48 = d at *
      refine ⟨by omega, by omega, fun h => ?_, fun h => ?_⟩
      · rw [if_pos (by omega)] at hv
        rw [key _ hv]
        exact W.ret.2 rfl
      · rw [if_neg (by omega)] at hv
        refine ⟨by omega, by omega, by omega, hn _ _ ⟨10 * V + d, k + 1, by omega, by omega, by omega, by omega, hv⟩ (by omega)⟩
    · have hk : k = w.length := by omega
      rw [hk, List.drop_length, numv] at hv
      have e3 : max (-4611686018427387904) (min 4611686018427387904 (V : Int)) = (V : Int) := by omega
      simp only [s_ref04_OfInt, Option.bind_some, e3]
      rw [key _ hv]
      exact W.ret.2 rfl
  simp only [W.cond, ltB_iff, ltB_not]
  refine ⟨fun h => ?_, fun h => loop (by omega) _⟩
  obtain ⟨e, he1, he2, he3⟩ := hD 0 (by omega)
  have hh : w.head? = some e := by rw [← he1]; cases w <;> rfl
  have he2 := ix_drop he2
  rw [show (a : Int) + ((0 : Nat) : Int) = (a : Int) by omega] at he2
  simp only [he2, Option.bind_some, W.cond]
  refine ⟨fun h2 => ?_, fun h2 => loop ?_ _⟩
  · have h48 : e = 48 := by
      have := eq_of_beq h2
      exact UInt8.toNat_inj.1 (by simp only [UInt8.reduceToNat]; omega)
    rw [numR, if_pos ⟨by omega, by rw [hh, h48]⟩]; exact W.ret.2 rfl
  · rintro ⟨_, h3⟩
    rw [hh] at h3
    cases h3
    exact absurd h2 (by decide)
theorem hexv_none {l : List UInt8} {k : Nat} {e : UInt8} (h : l[k]? = some e) (he : hx e = none) : ∀ U, hexv U l = none := by
  induction l generalizing k with
  | nil => simp at h
  | cons c t ih =>
    intro U
    rw [hexv]
    cases hc : hx c with
    | none => rfl
    | some d =>
      cases k with
      | zero => simp only [List.getElem?_cons_zero, Option.some.injEq] at h; subst h; rw [he] at hc; cases hc
      | succ k => exact ih (by simpa using h) _
theorem w_rdouble (y : List UInt8) (a : Nat) (ha : a < y.length) (hy : y.length ≤ 700) : W (fun N => s_ref10_double N y a) (· = r3 a (dblR (y.drop (a + 1)))) := by
  have hl := tw_le isH (y.drop (a + 1))
  rw [List.length_drop] at hl
  simp only [s_ref10_double, W.gd, i64b_eq]
  refine ⟨by omega, ?_⟩
  rw [show (a : Int) + 1 = ((a + 1 : Nat) : Int) by omega]
  refine W.call (w_run isH _ in_H (by decide) y (a + 1) (by omega) hy) ?_
  rintro _ rfl
  simp only [W.cond, W.gd, W.ret, ltB_iff, ltB_not, i64b_eq]
  refine ⟨fun h => ?_, fun h => ⟨by omega, ?_⟩⟩
  · by_cases h16 : (y.drop (a + 1)).length < 16
    · rw [dblR, if_pos h16]; rfl
    · rw [List.length_drop] at h16
      obtain ⟨e, he⟩ := drop_get (y := y) (a := a + 1) (k := ((y.drop (a + 1)).takeWhile isH).length) (by omega)
      have hp := tw_at (Nat.le_refl _) he
      have hnone : hx e = none := by
        simp only [isH, Nat.lt_irrefl, decide_false] at hp
        cases hh : hx e with
        | none => rfl
        | some d => rw [hh] at hp; cases hp
      have := hexv_none (l := (y.drop (a + 1)).take 16) (k := ((y.drop (a + 1)).takeWhile isH).length) (e := e) (by rw [List.getElem?_take, if_pos (by omega)]; exact he) hnone 0
      rw [dblR, if_neg (by rw [List.length_drop]; omega), this]; rfl
  · have h0 : ¬ (y.drop (a + 1)).length < 16 := by rw [List.length_drop]; omega
    have key : ∀ v, hexv 0 ((y.drop (a + 1)).take 16) = v → dblR (y.drop (a + 1)) = match v with
        | none => .inr (4, 0)
        | some u => if cln (u : Int) = (u : Int) then .inl (3, [], ⟨3, 0, (u : Int), []⟩, 17) else .inr (4, 0) := fun v hv => by rw [dblR, if_neg h0, hv] <;> cases v <;> rfl
    refine W.lp2 (fun v x => ∃ U k : Nat, v = (U : Int) ∧ x = ((a + 1 : Nat) : Int) + (k : Int) ∧ k ≤ 16 ∧ U < 16 ^ k ∧ hexv 0 ((y.drop (a + 1)).take 16) = hexv U (((y.drop (a + 1)).take 16).drop k)) (fun _ x => a + 17 - x.toNat) ⟨0, 0, rfl, by omega, Nat.zero_le _, by decide, rfl⟩ ?_
    rintro F v x ⟨U, k, rfl, rfl, hk, hU, hv⟩ hn
    simp only [s_ref10_double_1, W.cond, W.gd, ltB_iff, ltB_not, i64b_eq]
    refine ⟨by omega, fun hlt => ?_, fun hge => ?_⟩
    · obtain ⟨e, he⟩ := drop_get (y := y) (a := a + 1) (k := k) (by omega)
      have hp := tw_at (p := isH) (by omega) he
      rw [decide_eq_true (by omega)] at hp
      have he2 : ((y.drop (a + 1)).take 16)[k]? = some e := by rw [List.getElem?_take, if_pos (by omega)]; exact he
      rw [drop_eq he2, hexv] at hv
      simp only [ix_drop he, Option.bind_some]
      refine W.call (w_worth e) ?_
      rintro _ rfl
      cases hh : hx e with
      | none => rw [isH, hh] at hp; cases hp
      | some d =>
        rw [hh] at hv
        have hd := hx_lt hh
        have hp2 := pow16 k (by omega)
        simp only [W.gd, i64b_eq]
        refine ⟨by omega, hn _ _ ⟨16 * U + d, k + 1, ?_, by omega, by omega, ?_, hv⟩ (by omega)⟩
        · rw [IntKind.wrap_u64, IntKind.wrap_u64, IntKind.wrap_u64]; omega
        · rw [Nat.pow_succ]; omega
    · have hk : k = 16 := by omega
      have hnil : ((y.drop (a + 1)).take 16).drop 16 = [] := List.drop_eq_nil_of_le (by rw [List.length_take]; omega)
      have hU2 : U < 18446744073709551616 := by rw [hk] at hU; exact hU
      rw [hk, hnil, hexv] at hv
      have hc := fun N => e_ref03_Clean (U : Int) (by omega) (by omega) N
      simp only [hc, Option.bind_some, W.cond]
      refine ⟨fun hne => ?_, fun hne => ?_⟩
      · rw [key _ hv]
        dsimp only
        rw [if_neg (by simpa using hne)]; exact W.ret.2 rfl
      · have hne : cln (U : Int) = (U : Int) := by simpa using hne
        simp only [s_ref04_OfReal, hc, Option.bind_some, hne]
        rw [key _ hv]
        dsimp only
        rw [if_pos hne]
        exact W.ret.2 rfl
end Go.Proofs.YtmjmbhkohcdlpaaGreatDoor.W
namespace Go.Proofs.YtmjmbhkohcdlpaaGreatDoor.W
open Go
set_option linter.unusedSimpArgs false
set_option linter.unusedVariables false

theorem u8lit {c : UInt8} {n : Nat} (hn : n < 256) : ((c.toNat : Int) == (n : Int)) = true → c = UInt8.ofNat n := fun h => by rw [u8eq hn] at h; simpa using h
theorem u8nlit {c : UInt8} {n : Nat} (hn : n < 256) : ((c.toNat : Int) == (n : Int)) = false → ¬ c = UInt8.ofNat n := fun h => by rw [u8eq hn] at h; simpa using h
theorem w_rquoted (y : List UInt8) (a : Nat) (ha : a < y.length) (hy : y.length ≤ 700) : W (fun N => s_ref10_quoted N y a) (· = r4 a (quoR (y.drop (a + 1)) 1 [])) := by
  simp only [s_ref10_quoted, W.gd, i64b_eq]
  refine ⟨by omega, ?_⟩
  refine W.lp2 (fun i b => ∃ j : Nat, i = ((a + j : Nat) : Int) ∧ 1 ≤ j ∧ a + j ≤ y.length ∧ b.length ≤ j ∧ quoR (y.drop (a + 1)) 1 [] = quoR (y.drop (a + j)) j (byS b)) (fun i _ => y.length - i.toNat) ⟨1, by omega, Nat.le_refl _, by omega, by simp, rfl⟩ ?_
  rintro F i b ⟨j, rfl, hj, hl, hb, hq⟩ hn
  have done : a + j + 1 ≤ y.length → 24 ≥ b.length → quoR (y.drop (a + 1)) 1 [] = .inl (3, [], ⟨4, 0, 0, byS b⟩, j + 1) →
      W (fun i : Nat × Nat => (s_ref04_OfText i.1 (byS b)).bind fun o => gd (i64b (((a + j : Nat) : Int) + 1)) (gd (i64b (((a + j : Nat) : Int) + 1 - (a : Int))) (some ((lex_Token.mk 3 (a : Int) [] o), (((a + j : Nat) : Int) + 1 - (a : Int)), (fault_Fault.mk 0 0))))) (· = r4 a (quoR (y.drop (a + 1)) 1 [])) := fun h1 h2 h3 => by
    have e2 : min ((byS b).length : Int) 24 = ((byS b).length : Int) := by rw [byS_len]; omega
    simp only [s_ref04_OfText, e2, Int.toNat_natCast, List.take_length]
    rw [show leB 0 ((byS b).length : Int) = true from leB_iff.2 (by omega), show leB ((byS b).length : Int) ((byS b).length : Int) = true from leB_iff.2 (by omega)]
    simp only [gd_true, Option.bind_some, W.gd, i64b_eq, W.ret]
    refine ⟨by omega, by omega, ?_⟩
    rw [h3]
    simp only [r4]
    rw [show ((a + j : Nat) : Int) + 1 - (a : Int) = ((j + 1 : Nat) : Int) by omega]
  simp only [s_ref10_quoted_1, W.cond, W.gd, ltB_iff, ltB_not, i64b_eq]
  refine ⟨fun hlt => ?_, fun hge => ?_⟩
  rotate_left
  · have hnil : y.drop (a + j) = [] := List.drop_eq_nil_of_le (by omega)
    rw [hnil, quoR_nil] at hq
    rw [hq]; exact W.ret.2 rfl
  obtain ⟨c, hc⟩ := drop_get (y := y) (a := a + j) (k := 0) (by omega)
  have hd := drop_eq hc
  rw [List.drop_zero, List.drop_drop] at hd
  have hc := ix_drop hc
  rw [show ((a + j : Nat) : Int) + ((0 : Nat) : Int) = ((a + j : Nat) : Int) by omega] at hc
  rw [hd, quoR_cons] at hq
  simp only [hc, Option.bind_some, W.cond, W.ret, ltB_iff, ltB_not]
  refine ⟨fun h1 => ?_, fun h1 => ⟨fun h2 => ?_, fun h2 => ?_⟩⟩
  · rw [if_pos (.inl (by omega))] at hq
    rw [hq]; rfl
  · rw [if_pos (.inr (by omega))] at hq
    rw [hq]; rfl
  rw [if_neg (by omega)] at hq
  refine ⟨fun h3 => ?_, fun h3 => ⟨fun h4 => ?_, fun h4 => ?_⟩⟩
  · have hc92 : c = 92 := u8lit (n := 92) (by omega) h3
    rw [if_pos hc92] at hq
    rw [show ((a + j : Nat) : Int) + 1 = ((a + j + 1 : Nat) : Int) by omega]
    simp only [W.gd, i64b_eq]
    refine ⟨by omega, ?_⟩
    have hrl := tw_le isH (y.drop (a + j + 1))
    rw [List.length_drop] at hrl
    refine W.call (w_run isH _ in_H (by decide) y (a + j + 1) (by omega) hy) ?_
    rintro _ rfl
    simp only [W.cond, W.gd, W.ret, ltB_iff, ltB_not, i64b_eq]
    refine ⟨fun h5 => ?_, fun h5 => ⟨by omega, ?_⟩⟩
    · have : quoR (y.drop (a + 1)) 1 [] = .inr (4, j) := by
        rw [hq]
        rcases hdd : y.drop (a + j + 1) with _ | ⟨p, _ | ⟨q, t⟩⟩
        · rfl
        · rfl
        · rw [hdd] at h5
          dsimp only
          simp only [List.takeWhile_cons, isH] at h5
          cases hp : hx p with
          | none => rfl
          | some h =>
            cases hq2 : hx q with
            | none => rfl
            | some l => simp [hp, hq2] at h5; omega
      rw [this]; rfl
    · rcases hdd : y.drop (a + j + 1) with _ | ⟨p, _ | ⟨q, t⟩⟩
      · rw [hdd] at h5; simp at h5
      · rw [hdd] at h5; simp only [List.takeWhile_cons] at h5; split at h5 <;> simp at h5
      · have g1 : (y.drop (a + j + 1))[0]? = some p := by rw [hdd]; rfl
        have g2 : (y.drop (a + j + 1))[1]? = some q := by rw [hdd]; rfl
        have p1 := tw_at (p := isH) (by omega) g1
        have p2 := tw_at (p := isH) (by omega) g2
        rw [decide_eq_true (by omega)] at p1 p2
        have g1 := ix_drop g1
        have g2 := ix_drop g2
        rw [show ((a + j + 1 : Nat) : Int) + ((0 : Nat) : Int) = ((a + j + 1 : Nat) : Int) by omega] at g1
        rw [show ((a + j + 1 : Nat) : Int) + ((1 : Nat) : Int) = ((a + j : Nat) : Int) + 2 by omega] at g2
        have hlen : (y.drop (a + j + 1)).length = t.length + 2 := by rw [hdd]; rfl
        rw [List.length_drop] at hlen
        have ht : t = y.drop (a + (j + 3)) := by
          have : (y.drop (a + j + 1)).drop 2 = t := by rw [hdd]; rfl
          rw [← this, List.drop_drop]
          congr 1
        rw [hdd] at hq
        dsimp only at hq
        simp only [isH] at p1 p2
        cases hp : hx p with
        | none => rw [hp] at p1; cases p1
        | some h =>
          cases hq2 : hx q with
          | none => rw [hq2] at p2; cases p2
          | some l =>
            have l1 := hx_lt hp
            have l2 := hx_lt hq2
            rw [hp, hq2] at hq
            dsimp only at hq
            simp only [g1, Option.bind_some]
            refine W.call (w_worth p) ?_
            rw [hp]
            rintro _ rfl
            simp only [W.gd, i64b_eq, g2, Option.bind_some]
            refine ⟨by omega, by omega, ?_⟩
            refine W.call (w_worth q) ?_
            rw [hq2]
            rintro _ rfl
            have hv : IntKind.u8.wrap (16 * (h : Int) + (l : Int)) = ((16 * h + l : Nat) : Int) := by rw [IntKind.wrap_u8]; omega
            simp only [W.gd, i64b_eq, hv]
            refine ⟨by omega, Nat.ble_eq_true_of_le (by omega), by omega, ?_⟩
            refine hn _ _ ⟨j + 3, by omega, by omega, by omega, by simp; omega, ?_⟩ (by omega)
            rw [byS_snoc, Int.toNat_natCast, ← ht]
            exact hq
  · have h3 : ¬ c = 92 := u8nlit (n := 92) (by omega) h3
    have h4 : ¬ c = 39 := by intro h; subst h; exact absurd h4 (by decide)
    rw [if_neg h3, if_neg h4] at hq
    simp only [W.gd, i64b_eq]
    refine ⟨Nat.ble_eq_true_of_le (by omega), by omega, ?_⟩
    rw [show ((a + j : Nat) : Int) + 1 = ((a + (j + 1) : Nat) : Int) by omega]
    refine hn _ _ ⟨j + 1, rfl, by omega, by omega, by simp; omega, ?_⟩ (by omega)
    rw [byS_snoc, ofN]
    exact hq
  · have h3 : ¬ c = 92 := u8nlit (n := 92) (by omega) h3
    have h5 : ((c.toNat : Int) == 39) = true := by cases hh : ((c.toNat : Int) == 39) <;> simp_all
    have h39 : c = 39 := u8lit (n := 39) (by omega) h5
    subst h39
    rw [if_neg h3, if_pos rfl] at hq
    simp only [W.gd, W.cond, W.ret, i64b_eq, ltB_iff, ltB_not]
    refine ⟨by omega, fun h5 => ⟨by omega, ?_⟩, fun h5 => ?_⟩
    · obtain ⟨x, hx⟩ := drop_get (y := y) (a := a + j + 1) (k := 0) (by omega)
      have hdx := drop_eq hx
      rw [List.drop_zero, List.drop_drop] at hdx
      have hx := ix_drop hx
      rw [show ((a + j + 1 : Nat) : Int) + ((0 : Nat) : Int) = ((a + j : Nat) : Int) + 1 by omega] at hx
      rw [hdx] at hq
      dsimp only at hq
      simp only [hx, Option.bind_some, W.cond, W.gd, W.ret, i64b_eq, ltB_iff, ltB_not]
      refine ⟨fun h6 => ?_, fun h6 => ?_⟩
      · have hx39 : x = 39 := u8lit (n := 39) (by omega) h6
        rw [if_pos hx39] at hq
        refine ⟨Nat.ble_eq_true_of_le (by omega), by omega, ?_⟩
        refine hn _ _ ⟨j + 2, by omega, by omega, by omega, by simp; omega, ?_⟩ (by omega)
        rw [byS_snoc]
        exact hq
      · have hx39 : ¬ x = 39 := u8nlit (n := 39) (by omega) h6
        rw [if_neg hx39] at hq
        refine ⟨fun h7 => by rw [hq, if_pos (by rw [byS_len]; omega)]; rfl, fun h7 => ?_⟩
        exact done (by omega) (by omega) (by rw [hq, if_neg (by rw [byS_len]; omega)])
    · have hnil : y.drop (a + j + 1) = [] := List.drop_eq_nil_of_le (by omega)
      rw [hnil] at hq
      dsimp only at hq
      refine ⟨fun h7 => by rw [hq, if_pos (by rw [byS_len]; omega)]; rfl, fun h7 => ?_⟩
      exact done (by omega) (by omega) (by rw [hq, if_neg (by rw [byS_len]; omega)])
theorem numR_off {w : List UInt8} {e : Int} {o : Nat} (h : numR w = .inr (e, o)) : o = 0 ∧ (e == 0) = false := by
  unfold numR at h
  repeat' split at h
  all_goals first | (cases h; exact ⟨rfl, rfl⟩) | cases h
theorem wordR_off {w : List UInt8} {e : Int} {o : Nat} (h : wordR w = .inr (e, o)) : o = 0 ∧ (e == 0) = false := by
  unfold wordR at h
  repeat' split at h
  all_goals first | (cases h; exact ⟨rfl, rfl⟩) | cases h
theorem dblR_off {w : List UInt8} {e : Int} {o : Nat} (h : dblR w = .inr (e, o)) : o = 0 ∧ (e == 0) = false := by
  unfold dblR at h
  repeat' split at h
  all_goals first | (cases h; exact ⟨rfl, rfl⟩) | cases h
theorem w_rone (y : List UInt8) (a : Nat) (c : UInt8) (t : List UInt8) (hd : y.drop a = c :: t) (hy : y.length ≤ 700) : W (fun N => s_ref10_one N y a) (· = r4 a (oneR (c :: t))) := by
  have hl : (y.drop a).length = t.length + 1 := by rw [hd]; rfl
  rw [List.length_drop] at hl
  have ha : a < y.length := by omega
  have hd1 : y.drop (a + 1) = t := by
    have : (y.drop a).drop 1 = t := by rw [hd]; rfl
    rw [← this, List.drop_drop]
  have hc : ix y (a : Int) = some c := by
    have := ix_drop (y := y) (a := a) (k := 0) (e := c) (by rw [hd]; rfl)
    rwa [show (a : Int) + ((0 : Nat) : Int) = (a : Int) by omega] at this
  have new : ∀ (R : R1), (∀ e o, R = .inr (e, o) → o = 0 ∧ (e == 0) = false) → W (fun i : Nat => (s_ref09_New i (r3 a R).2.2 (a : Int)).bind fun n => some ((r3 a R).1, (r3 a R).2.1, n)) (· = r4 a R) := fun R hR => by
    cases R with
    | inl f => obtain ⟨k, x, v, m⟩ := f; exact W.ret.2 rfl
    | inr f =>
      obtain ⟨e, o⟩ := f
      obtain ⟨rfl, he⟩ := hR e o rfl
      simp only [r3, s_ref09_New, he, cond_false, Option.bind_some, W.ret, r4, Nat.add_zero]
  simp only [s_ref10_one, hc, Option.bind_some, W.cond]
  refine ⟨fun h39 => ?_, fun h39 => ?_⟩
  · have h39' : c = 39 := u8lit (n := 39) (by omega) h39
    have e : oneR (c :: t) = quoR t 1 [] := by subst h39'; rfl
    refine W.call (w_rquoted y a ha hy) ?_
    rintro _ rfl
    rw [hd1, e]
    exact W.ret.2 rfl
  refine W.call (w_rin c _ (by decide)) ?_
  rw [in_S]
  rintro _ rfl
  refine W.cond.2 ⟨fun hS => ?_, fun hS => ?_⟩
  · refine W.call (w_rword y a (Nat.le_of_lt ha) hy) ?_
    rintro _ rfl
    rw [hd]
    have e : oneR (c :: t) = wordR ((c :: t).takeWhile isT) := by simp only [oneR, hS, if_true]
    rw [e]
    exact new _ fun _ _ h => wordR_off h
  refine W.call (w_rin c _ (by decide)) ?_
  rw [in_D]
  rintro _ rfl
  refine W.cond.2 ⟨fun hD => ?_, fun hD => ?_⟩
  · refine W.call (w_rnumber y a ha hy) ?_
    rintro _ rfl
    rw [hd]
    have e : oneR (c :: t) = numR ((c :: t).takeWhile isD) := by simp only [oneR, hS, hD, if_true, Bool.false_eq_true, if_false]
    rw [e]
    exact new _ fun _ _ h => numR_off h
  refine W.cond.2 ⟨fun h35 => ?_, fun h35 => ?_⟩
  · refine W.call (w_rdouble y a ha hy) ?_
    rintro _ rfl
    rw [hd1]
    have e : oneR (c :: t) = dblR t := by simp only [oneR, hS, hD, h35, if_true, Bool.false_eq_true, if_false]
    rw [e]
    exact new _ fun _ _ h => dblR_off h
  refine W.call (w_rin c _ (by decide)) ?_
  rw [in_G]
  rintro _ rfl
  have t1 := sub_take (y := y) (a := a) (m := 1)
  have t2 := sub_take (y := y) (a := a) (m := 2)
  rw [hd] at t1 t2
  rw [show ((1 : Nat) : Int) = 1 from rfl] at t1
  rw [show ((2 : Nat) : Int) = 2 from rfl] at t2
  refine W.cond.2 ⟨fun hG => ?_, fun hG => ?_⟩
  · have e : oneR (c :: t) = signR c t := by simp only [oneR, hS, hD, h35, h39, hG, if_true, Bool.false_eq_true, if_false]
    rw [e, signR_eq]
    have one : (t.head? = some 61 → isC c = false) → sigR c t = [c] := fun h => by
      rw [sigR, if_neg]; rintro ⟨h1, h2⟩; rw [h h2] at h1; cases h1
    refine W.call (w_rin c _ (by decide)) ?_
    rw [in_C]
    rintro _ rfl
    simp only [s_ref09_New, show ((0 : Int) == 0) = true from rfl, cond_true, Option.bind_some, W.cond, W.gd, W.ret, ltB_iff, ltB_not, leB_iff, i64b_eq, t1, t2]
    refine ⟨fun h => ⟨by omega, fun h2 => ⟨by omega, ?_⟩, fun h2 => ⟨by omega, by omega, by omega, by omega, ?_⟩⟩, fun h => ⟨by omega, by omega, by omega, by omega, ?_⟩⟩
    · cases t with
      | nil => simp at hl; omega
      | cons d t =>
        have hd1 := ix_drop (y := y) (a := a) (k := 1) (e := d) (by rw [hd]; rfl)
        rw [show (a : Int) + ((1 : Nat) : Int) = (a : Int) + 1 by omega] at hd1
        simp only [hd1, Option.bind_some, W.cond, W.gd, W.ret, i64b_eq, leB_iff]
        refine ⟨fun h3 => ⟨by omega, by omega, by omega, by omega, ?_⟩, fun h3 => ⟨by omega, by omega, by omega, by omega, ?_⟩⟩
        · have h61 : d = 61 := u8lit (n := 61) (by omega) h3
          subst h61
          have hs : sigR c (61 :: t) = [c, 61] := by rw [sigR, if_pos ⟨h, rfl⟩]
          rw [hs]; rfl
        · have h61 : ¬ d = 61 := u8nlit (n := 61) (by omega) h3
          have hs := one (fun h => by cases h; exact absurd rfl h61)
          rw [hs]; rfl
    · have hs := one (fun h => by cases t with | nil => cases h | cons d t => simp at hl; omega)
      rw [hs]; rfl
    · rw [one (fun _ => h)]; rfl
  · have e : oneR (c :: t) = .inr (10, 0) := by simp only [oneR, hS, hD, h35, h39, hG, Bool.false_eq_true, if_false]
    rw [e]
    simp only [s_ref09_New, show ((10 : Int) == 0) = false from rfl, cond_false, Option.bind_some, W.ret, r4, Nat.add_zero]
    rfl
theorem quoR_e : ∀ (n : Nat) (t : List UInt8), t.length ≤ n → ∀ {off : Nat} {b : List UInt8} {e : Int} {o : Nat}, quoR t off b = .inr (e, o) → (e == 0) = false
  | n, [], _, off, b, e, o, h => by rw [quoR_nil] at h; cases h; rfl
  | 0, c :: t, hn, _, _, _, _, _ => by simp at hn
  | n + 1, c :: t, hn, off, b, e, o, h => by
    simp only [List.length_cons, Nat.add_le_add_iff_right] at hn
    rw [quoR_cons] at h
    split at h
    · cases h; rfl
    · split at h
      · split at h
        · split at h
          · exact quoR_e n _ (by simp at hn; omega) h
          · cases h; rfl
        · cases h; rfl
      · split at h
        · split at h
          · split at h
            · exact quoR_e n _ (by simp at hn; omega) h
            · split at h
              · cases h; rfl
              · cases h
          · split at h
            · cases h; rfl
            · cases h
        · exact quoR_e n _ hn h
theorem oneR_e {r : List UInt8} {e : Int} {o : Nat} (h : oneR r = .inr (e, o)) : (e == 0) = false := by
  cases r with
  | nil => cases h; rfl
  | cons c t =>
    simp only [oneR] at h
    split at h
    · exact (wordR_off h).2
    · split at h
      · exact (numR_off h).2
      · split at h
        · exact (dblR_off h).2
        · split at h
          · exact quoR_e _ t (Nat.le_refl _) h
          · split at h
            · rw [signR_eq] at h; cases h
            · cases h; rfl
def scanF : List lex_Token ⊕ (Int × Int) → List lex_Token × fault_Fault
  | .inl l => (l, ⟨0, 0⟩)
  | .inr (e, a) => ([], ⟨e, a⟩)
theorem w_rScan (s : List UInt8) (hs : s.length ≤ 700) : W (fun N => s_ref10_Scan N s) (· = scanF (scan s)) := by
  simp only [s_ref10_Scan, W.cond, W.ret, ltB_iff, ltB_not, scan]
  refine ⟨fun h => by rw [if_pos (by omega)]; rfl, fun h => ?_⟩
  rw [if_neg (by omega)]
  refine W.lp2 (fun p ys => ∃ a : Nat, p = (a : Int) ∧ a ≤ s.length ∧ ys.length ≤ 200 ∧ scanR s 0 [] = scanR (s.drop a) a ys) (fun p _ => s.length - p.toNat) ⟨0, rfl, Nat.zero_le _, by simp, rfl⟩ ?_
  rintro F p ys ⟨a, rfl, ha, hl, hq⟩ hn
  simp only [s_ref10_Scan_1, W.cond, ltB_iff, ltB_not]
  refine ⟨fun h1 => ?_, fun h1 => ?_⟩
  · obtain ⟨c, hc⟩ := drop_get (y := s) (a := a) (k := 0) (by omega)
    have hd := drop_eq hc
    rw [List.drop_zero, List.drop_drop] at hd
    have hc := ix_drop hc
    rw [show (a : Int) + ((0 : Nat) : Int) = (a : Int) by omega] at hc
    rw [hd, scanR_cons] at hq
    have skip : blank c = true → W (fun p : Nat × Nat => F p ((a : Int) + 1) ys) fun r => r = scanF (scanR s 0 []) := fun hb => by
      rw [show (a : Int) + 1 = ((a + 1 : Nat) : Int) by omega]
      rw [if_pos hb] at hq
      exact hn _ _ ⟨a + 1, rfl, by omega, hl, hq⟩ (by omega)
    have e200 : ((ys.length : Int) == 200) = decide (ys.length = 200) := by
      by_cases h : ys.length = 200
      · rw [decide_eq_true h, beq_iff_eq]; omega
      · rw [decide_eq_false h, beq_eq_false_iff_ne]; omega
    simp only [hc, Option.bind_some, W.cond, W.gd, i64b_eq]
    refine ⟨fun h => ⟨by omega, skip (by simp [blank, h])⟩, fun h2 => ⟨fun h => ⟨by omega, skip (by simp [blank, h])⟩, fun h3 => ⟨fun h => ⟨by omega, skip (by simp [blank, h])⟩, fun h4 => ?_⟩⟩⟩
    rw [if_neg (by simp only [blank, h2, h3, h4]; decide)] at hq
    have body : (known c && decide (ys.length = 200)) = false → W (fun p : Nat × Nat => (s_ref10_one p.1 s (a : Int)).bind fun one => bif (one.2.2.E != 0) then some ([], one.2.2) else gd (Nat.ble ((List.length ys + 1) * 72) 140737488355328) (gd (i64b ((a : Int) + one.2.1)) (F p ((a : Int) + one.2.1) (ys ++ [one.1])))) fun r => r = scanF (scanR s 0 []) := fun hf => by
      rw [hf] at hq
      simp only [Bool.false_eq_true, if_false] at hq
      refine W.call (w_rone s a c _ hd hs) ?_
      rintro _ rfl
      cases ho : oneR (c :: s.drop (a + 1)) with
      | inr f =>
        obtain ⟨e, o⟩ := f
        have he := oneR_e ho
        rw [ho] at hq
        dsimp only at hq
        rw [hq]
        simp only [r4, bne, he, Bool.not_false, cond_true]
        exact W.ret.2 rfl
      | inl f =>
        obtain ⟨k, x, v, m⟩ := f
        rw [ho] at hq
        dsimp only at hq
        have hm := oneR_m ho
        rw [List.length_drop] at hm
        have hlen : ys.length < 200 := by
          have hk : known c = true := by
            cases hk : known c with
            | true => rfl
            | false =>
              simp only [known, Bool.or_eq_false_iff] at hk
              simp only [oneR, hk.1.1.1.1, hk.1.1.1.2, hk.1.1.2, hk.1.2, hk.2, Bool.false_eq_true, if_false] at ho
              cases ho
          rw [hk] at hf
          simp only [Bool.true_and, decide_eq_false_iff_not] at hf
          omega
        rw [List.drop_drop, show a + 1 + (m - 1) = a + m by omega] at hq
        simp only [r4, show ((0 : Int) != 0) = false from rfl, cond_false, W.gd, i64b_eq]
        refine ⟨Nat.ble_eq_true_of_le (by omega), by omega, ?_⟩
        rw [show (a : Int) + (m : Int) = ((a + m : Nat) : Int) by omega]
        exact hn _ _ ⟨a + m, rfl, by omega, by simp; omega, hq⟩ (by omega)
    refine W.call (w_rin c _ (by decide)) ?_
    rw [in_K]
    rintro _ rfl
    rw [e200]
    refine W.cond.2 ⟨fun hk => W.cond.2 ⟨fun hf => ?_, fun hf => body (by rw [hk, hf]; rfl)⟩, fun hk => body (by rw [hk]; rfl)⟩
    rw [hk, hf] at hq
    simp only [Bool.and_self, if_true] at hq
    rw [hq]; exact W.ret.2 rfl
  · have hnil : s.drop a = [] := List.drop_eq_nil_of_le (by omega)
    rw [hnil, scanR_nil] at hq
    rw [hq]; exact W.ret.2 rfl
end Go.Proofs.YtmjmbhkohcdlpaaGreatDoor.W
namespace Go.Proofs.YtmjmbhkohcdlpaaGreatDoor.W
open Go
set_option linter.unusedSimpArgs false
set_option linter.unusedVariables false

def eqV (x y : value_Value) : Bool := (x.Kind == y.Kind) && ((x.N == y.N) && ((x.Bits == y.Bits) && (x.Text == y.Text)))
def eqT (x y : lex_Token) : Bool := (x.Kind == y.Kind) && ((x.Text == y.Text) && eqV x.Val y.Val)
def sameL : List lex_Token → List lex_Token → Bool
  | [], [] => true
  | x :: a, y :: b => eqT x y && sameL a b
  | _, _ => false
theorem eqV_iff {x y : value_Value} : eqV x y = true ↔ x = y := by
  cases x; cases y
  simp [eqV, Bool.and_eq_true]
theorem eqT_refl (x : lex_Token) : eqT x x = true := by simp [eqT, eqV]
theorem sameL_refl : ∀ l, sameL l l = true
  | [] => rfl
  | x :: l => by simp [sameL, eqT_refl, sameL_refl l]
theorem w_aw : W (fun N => s_law10_awake N) fun r => r = true := ⟨true, ⟨64, fun N hN => by
  simp only [s_law10_awake, Nat.ble_eq_true_of_le hN, cond_true]⟩, rfl⟩
theorem aw {ι : Type} [Lim ι] (N : ι → Nat) [Tends N] : W (fun i => (s_law10_awake (N i)).bind fun a => some a) (· = true) := wid.2 (w_aw.of N)
end Go.Proofs.YtmjmbhkohcdlpaaGreatDoor.W
namespace Go.Proofs.YtmjmbhkohcdlpaaGreatDoor.W
open Go
set_option linter.unusedSimpArgs false
set_option linter.unusedVariables false

theorem w_Back (l : List lex_Token) (hl : l.length ≤ 700) : W (fun N => s_law10_Back N l) (· = l) := by
  simp only [s_law10_Back]
  refine wf2a (l := l) (fun pre ys => ys = pre) [] rfl rfl (by omega) rfl ?_ ?_
  · rintro F pre e rest ys hl' h1 h2 h3 rfl hn
    simp only [s_law10_Back_1, h1, h2, h3, Option.bind_some, cond_true, W.gd, true_and]
    refine ⟨Nat.ble_eq_true_of_le (by rw [hl'] at hl; simp at hl; omega), hn _ rfl⟩
  · rintro F ys h1 rfl
    simp only [s_law10_Back_1, h1, cond_false, W.ret]
theorem w_rSame (a b : List lex_Token) (hl : a.length ≤ 700) : W (fun N => s_ref10_Same N a b) (· = (decide (a.length = b.length) && sameL a b)) := by
  have e : ((a.length : Int) != (b.length : Int)) = !decide (a.length = b.length) := by
    by_cases h : a.length = b.length
    · simp [h]
    · simp [h]; omega
  simp only [s_ref10_Same, e, W.cond, W.ret]
  refine ⟨fun h => ?_, fun h => ?_⟩
  · have : decide (a.length = b.length) = false := by simpa using h
    rw [this]; rfl
  · have hab : a.length = b.length := by simpa using h
    rw [decide_eq_true hab, Bool.true_and]
    refine wr1 (l := a) (fun pre rest => sameL rest (b.drop pre.length)) [] a rfl rfl (by omega) ?_ ?_
    · intro F pre e rest hl h1 h2 h3 hn
      obtain ⟨f, r2, q1, q2, q3⟩ := drop_len hab hl
      rw [List.length_append, List.length_singleton, q2] at hn
      rw [q1]
      simp only [s_ref10_Same_1, h1, h2, h3, q3, Option.bind_some, cond_true, W.cond, W.ret, gd_true, sameL, eqT, eqV]
      refine ⟨fun h => ?_, fun h => ⟨fun h' => ?_, fun h' => ⟨fun h'' => ?_, fun h'' => ?_⟩⟩⟩
      · have h : (e.Kind == f.Kind) = false := by simpa using h
        rw [h]; rfl
      · have h' : (e.Text == f.Text) = false := by simpa using h'
        simp [h']
      · have h'' : ((e.Val.Kind == f.Val.Kind) && ((e.Val.N == f.Val.N) && ((e.Val.Bits == f.Val.Bits) && (e.Val.Text == f.Val.Text)))) = false := by simpa only [Bool.not_eq_true'] using h''
        simp only [h'', Bool.and_false, Bool.false_and]
      · have h : (e.Kind == f.Kind) = true := by simpa using h
        have h' : (e.Text == f.Text) = true := by simpa using h'
        have h'' : ((e.Val.Kind == f.Val.Kind) && ((e.Val.N == f.Val.N) && ((e.Val.Bits == f.Val.Bits) && (e.Val.Text == f.Val.Text)))) = true := by simpa only [Bool.not_eq_false'] using h''
        simp only [h, h', h'', Bool.true_and]
        exact hn
    · intro F h1
      have : b.drop a.length = [] := List.drop_eq_nil_of_le (by omega)
      rw [this]
      simp only [s_ref10_Same_1, h1, cond_false, W.ret, sameL]
theorem w_places (a : List lex_Token) (hl : a.length ≤ 700) : W (fun N => s_law10_places N a a) (· = 0) := by
  simp only [s_law10_places, show ((a.length : Int) != (a.length : Int)) = false by simp, cond_false]
  refine wf1 (l := a) (fun _ => True) [] rfl rfl (by omega) trivial ?_ ?_
  · intro F pre e rest hl h1 h2 h3 _ hn
    simp only [s_law10_places_1, h1, h2, h3, Option.bind_some, cond_true, show (e.At != e.At) = false by simp, cond_false, gd_true]
    exact hn trivial
  · intro F h1 _
    simp only [s_law10_places_1, h1, cond_false, W.ret]
theorem scanR_len : ∀ (n : Nat) (r : List UInt8), r.length ≤ n → ∀ {p : Nat} {out l : List lex_Token}, out.length ≤ 200 → scanR r p out = .inl l → l.length ≤ 200
  | n, [], _, p, out, l, h, hq => by rw [scanR_nil] at hq; cases hq; exact h
  | 0, c :: t, hn, _, _, _, _, _ => by simp at hn
  | n + 1, c :: t, hn, p, out, l, h, hq => by
    simp only [List.length_cons, Nat.add_le_add_iff_right] at hn
    rw [scanR_cons] at hq
    split at hq
    · exact scanR_len n t hn h hq
    · split at hq
      · cases hq
      · rename_i hf
        split at hq
        · cases hq
        · rename_i k x v m ho
          have hk : known c = true := by
            cases hk : known c with
            | true => rfl
            | false =>
              simp only [known, Bool.or_eq_false_iff] at hk
              simp only [oneR, hk.1.1.1.1, hk.1.1.1.2, hk.1.1.2, hk.1.2, hk.2, Bool.false_eq_true, if_false] at ho
              cases ho
          rw [hk] at hf
          simp only [Bool.true_and, decide_eq_true_eq] at hf
          exact scanR_len n _ (by rw [List.length_drop]; omega) (by simp; omega) hq
theorem scanR_e : ∀ (n : Nat) (r : List UInt8), r.length ≤ n → ∀ {p : Nat} {out : List lex_Token} {e a : Int}, scanR r p out = .inr (e, a) → (e == 0) = false
  | n, [], _, p, out, e, a, hq => by rw [scanR_nil] at hq; cases hq
  | 0, c :: t, hn, _, _, _, _, _ => by simp at hn
  | n + 1, c :: t, hn, p, out, e, a, hq => by
    simp only [List.length_cons, Nat.add_le_add_iff_right] at hn
    rw [scanR_cons] at hq
    split at hq
    · exact scanR_e n t hn hq
    · split at hq
      · cases hq; rfl
      · split at hq
        · rename_i ho
          cases hq
          exact oneR_e ho
        · exact scanR_e n _ (by rw [List.length_drop]; omega) hq
theorem full_LexScans (s : List UInt8) (hs : okS s) : W (fun N => s_law10_LexScans N s) (· = true) := by
  simp only [s_law10_LexScans, W.cond, ltB_iff, ltB_not]
  refine ⟨fun _ => aw _, fun h => ?_⟩
  have h700 : s.length ≤ 700 := by omega
  refine W.call (w_Scan s h700) ?_
  rintro _ rfl
  cases hq : scan s with
  | inl l =>
    have hlen : l.length ≤ 200 := by
      unfold scan at hq
      split at hq
      · cases hq
      · exact scanR_len _ s (Nat.le_refl _) (by simp) hq
    simp only [scanE, Sum.elim_inl]
    refine W.call (w_rScan s h700) ?_
    rintro _ rfl
    rw [hq]
    simp only [scanF]
    refine W.call (w_Back l (by omega)) ?_
    rintro _ rfl
    refine W.call (w_rSame _ _ (by omega)) ?_
    rintro _ rfl
    simp only [decide_true, sameL_refl, Bool.and_self, cond_true]
    refine W.call (w_Back _ (by omega)) ?_
    rintro _ rfl
    refine W.call (w_places _ (by omega)) ?_
    rintro _ rfl
    exact aw _
  | inr f =>
    obtain ⟨e, a⟩ := f
    have he : (e == 0) = false := by
      unfold scan at hq
      split at hq
      · cases hq; rfl
      · exact scanR_e _ s (Nat.le_refl _) hq
    simp only [scanE, Sum.elim_inr]
    refine W.call (w_rScan s h700) ?_
    rintro _ rfl
    rw [hq]
    simp only [scanF]
    refine W.call (w_Back [] (by simp)) ?_
    rintro _ rfl
    refine W.call (w_rSame _ _ (by simp)) ?_
    rintro _ rfl
    simp only [decide_true, sameL_refl, Bool.and_self, cond_true]
    refine W.call (w_Back _ (by simp)) ?_
    rintro _ rfl
    refine W.call (w_places _ (by simp)) ?_
    rintro _ rfl
    simp only [s_law09_Told_f, s_fault_Code_f, s_fault_At_f, s_fault_find_f, Option.bind_some, he, BEq.rfl, Bool.and_self, cond_true]
    exact aw _
end Go.Proofs.YtmjmbhkohcdlpaaGreatDoor.W
