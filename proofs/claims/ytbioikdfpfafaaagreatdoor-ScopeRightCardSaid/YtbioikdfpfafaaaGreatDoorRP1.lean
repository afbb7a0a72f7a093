/- What the law is handed, told as what its plain text takes. No premise beyond what each theorem says. -/
import Derived.Test.YtbioikdfpfafaaaGreatDoorRG2
import Derived.Test.YtbioikdfpfafaaaGreatDoorRA2
import Derived.Test.YtbioikdfpfafaaaGreatDoorRA4
import Derived.Test.YtbioikdfpfafaaaGreatDoorRG1
set_option linter.all false
set_option linter.unusedSimpArgs false
set_option linter.unusedVariables false
namespace Go.Proofs.YtbioikdfpfafaaaGreatDoor.R
open Go
section
open Go.Proofs.Tryz
set_option maxRecDepth 1000000
def xZ9K (x : xZ5) : Prop := (inK .u8) x.Kind ∧ (inK .i64) x.N ∧ (inK .u64) x.Bits ∧ okS x.Text
def xZ7C (x : xZ1) : Prop := (inK .u8) x.Kind ∧ (inK .u8) x.Op ∧ okS x.Var ∧ okS x.Name ∧ xZ9K x.Val
def xZ6l (x : xZ0) : Prop := (inK .u8) x.Kind ∧ (inK .i64) x.Kids ∧ (inK .i64) x.Lo ∧ (inK .i64) x.Hi ∧ okS x.Var ∧ okS x.Type_ ∧ (okL xZ7C) x.Test
def xZ4a (x : xZ6) : Prop := (okL xZ6l) x.Body ∧ (inK .i64) x.Within ∧ okS x.By ∧ (inK .u8) x.Mode
theorem xZ17 {H : Type} (d : DataW H) (cs : List AV) (h : DAv prog 5 d cs) : ∃ x : Int, cs = [.v (.int .u8 x)] ∧ (inK .u8) x := by
  obtain ⟨x, h, h1, h2⟩ := xZku (k := .u8) (by kernel_rfl) h
  exact ⟨x, h, h1, h2⟩
theorem xZ18 {H : Type} (d : DataW H) (cs : List AV) (h : DAv prog 3 d cs) : ∃ x : Int, cs = [.v (.int .i64 x)] ∧ (inK .i64) x := by
  obtain ⟨x, h, h1, h2⟩ := xZku (k := .i64) (by kernel_rfl) h
  exact ⟨x, h, h1, h2⟩
theorem xZv {H : Type} (d : DataW H) (cs : List AV) (h : DAv prog 9 d cs) : ∃ x : List UInt8, cs = [.v (.string (bs x))] ∧ okS x := by
  obtain ⟨x, h, h1⟩ := xZj0 (by kernel_rfl) h
  exact ⟨x, h, h1⟩
theorem xZ8A {H : Type} (d : DataW H) (cs : List AV) (h : DAv prog 53 d cs) : ∃ x : Int, cs = [.v (.int .u64 x)] ∧ (inK .u64) x := by
  obtain ⟨x, h, h1, h2⟩ := xZku (k := .u64) (by kernel_rfl) h
  exact ⟨x, h, h1, h2⟩
theorem xZ8d {H : Type} (d : DataW H) (cs : List AV) (h : DAv prog 112 d cs) : ∃ x : xZ5, cs = [.v (.int .u8 x.Kind), .v (.int .i64 x.N), .v (.int .u64 x.Bits), .v (.string (bs x.Text))] ∧ xZ9K x := by
  obtain ⟨_, h⟩ := xZ8I (ts := [5, 3, 53, 9]) (by kernel_rfl) h
  obtain ⟨_, _, _, _, rfl, h0, h⟩ := xZ1K h
  obtain ⟨_, _, _, _, rfl, h1, h⟩ := xZ1K h
  obtain ⟨_, _, _, _, rfl, h2, h⟩ := xZ1K h
  obtain ⟨_, _, _, _, rfl, h3, h⟩ := xZ1K h
  obtain rfl := xZcA h
  obtain ⟨x0, rfl, k0⟩ := xZ17 _ _ h0
  obtain ⟨x1, rfl, k1⟩ := xZ18 _ _ h1
  obtain ⟨x2, rfl, k2⟩ := xZ8A _ _ h2
  obtain ⟨x3, rfl, k3⟩ := xZv _ _ h3
  exact ⟨⟨x0, x1, x2, x3⟩, rfl, ⟨k0, k1, k2, k3⟩⟩
theorem xZ8b {H : Type} (d : DataW H) (cs : List AV) (h : DAv prog 114 d cs) : ∃ x : xZ1, cs = [.v (.int .u8 x.Kind), .v (.int .u8 x.Op), .v (.string (bs x.Var)), .v (.string (bs x.Name)), .v (.int .u8 x.Val.Kind), .v (.int .i64 x.Val.N), .v (.int .u64 x.Val.Bits), .v (.string (bs x.Val.Text))] ∧ xZ7C x := by
  obtain ⟨_, h⟩ := xZ8I (ts := [5, 5, 9, 9, 112]) (by kernel_rfl) h
  obtain ⟨_, _, _, _, rfl, h0, h⟩ := xZ1K h
  obtain ⟨_, _, _, _, rfl, h1, h⟩ := xZ1K h
  obtain ⟨_, _, _, _, rfl, h2, h⟩ := xZ1K h
  obtain ⟨_, _, _, _, rfl, h3, h⟩ := xZ1K h
  obtain ⟨_, _, _, _, rfl, h4, h⟩ := xZ1K h
  obtain rfl := xZcA h
  obtain ⟨x0, rfl, k0⟩ := xZ17 _ _ h0
  obtain ⟨x1, rfl, k1⟩ := xZ17 _ _ h1
  obtain ⟨x2, rfl, k2⟩ := xZv _ _ h2
  obtain ⟨x3, rfl, k3⟩ := xZv _ _ h3
  obtain ⟨x4, rfl, k4⟩ := xZ8d _ _ h4
  exact ⟨⟨x0, x1, x2, x3, x4⟩, rfl, ⟨k0, k1, k2, k3, k4⟩⟩
theorem xZ8r {H : Type} (d : DataW H) (cs : List AV) (h : DAv prog 59 d cs) : ∃ x : List xZ1, cs = [.sl 8 (List.map eA4 x)] ∧ (okL xZ7C) x := by
  obtain ⟨x, h, h1, h2⟩ := xZbG (e := 114) (k := 8) eA4 xZ7C (by kernel_rfl) (by kernel_rfl) (fun d cs h => by obtain ⟨x, h1, h2⟩ := xZ8b d cs h; subst h1; exact ⟨x, xZe5 (by kernel_rfl), h2⟩) h
  exact ⟨x, h, h1, h2⟩
theorem xZ8m {H : Type} (d : DataW H) (cs : List AV) (h : DAv prog 61 d cs) : ∃ x : xZ0, cs = [.v (.int .u8 x.Kind), .v (.int .i64 x.Kids), .v (.int .i64 x.Lo), .v (.int .i64 x.Hi), .v (.string (bs x.Var)), .v (.string (bs x.Type_)), .sl 8 (List.map eA4 x.Test)] ∧ xZ6l x := by
  obtain ⟨_, h⟩ := xZ8I (ts := [5, 3, 3, 3, 9, 9, 59]) (by kernel_rfl) h
  obtain ⟨_, _, _, _, rfl, h0, h⟩ := xZ1K h
  obtain ⟨_, _, _, _, rfl, h1, h⟩ := xZ1K h
  obtain ⟨_, _, _, _, rfl, h2, h⟩ := xZ1K h
  obtain ⟨_, _, _, _, rfl, h3, h⟩ := xZ1K h
  obtain ⟨_, _, _, _, rfl, h4, h⟩ := xZ1K h
  obtain ⟨_, _, _, _, rfl, h5, h⟩ := xZ1K h
  obtain ⟨_, _, _, _, rfl, h6, h⟩ := xZ1K h
  obtain rfl := xZcA h
  obtain ⟨x0, rfl, k0⟩ := xZ17 _ _ h0
  obtain ⟨x1, rfl, k1⟩ := xZ18 _ _ h1
  obtain ⟨x2, rfl, k2⟩ := xZ18 _ _ h2
  obtain ⟨x3, rfl, k3⟩ := xZ18 _ _ h3
  obtain ⟨x4, rfl, k4⟩ := xZv _ _ h4
  obtain ⟨x5, rfl, k5⟩ := xZv _ _ h5
  obtain ⟨x6, rfl, k6⟩ := xZ8r _ _ h6
  exact ⟨⟨x0, x1, x2, x3, x4, x5, x6⟩, rfl, ⟨k0, k1, k2, k3, k4, k5, k6⟩⟩
theorem xZ8h {H : Type} (d : DataW H) (cs : List AV) (h : DAv prog 22 d cs) : ∃ x : List xZ0, cs = [.sl 7 (List.map eA5 x)] ∧ (okL xZ6l) x := by
  obtain ⟨x, h, h1, h2⟩ := xZbG (e := 61) (k := 7) eA5 xZ6l (by kernel_rfl) (by kernel_rfl) (fun d cs h => by obtain ⟨x, h1, h2⟩ := xZ8m d cs h; subst h1; exact ⟨x, xZe5 (by kernel_rfl), h2⟩) h
  exact ⟨x, h, h1, h2⟩
theorem xZ8F {H : Type} (d : DataW H) (cs : List AV) (h : DAv prog 24 d cs) : ∃ x : xZ6, cs = [.sl 7 (List.map eA5 x.Body), .v (.int .i64 x.Within), .v (.string (bs x.By)), .v (.int .u8 x.Mode)] ∧ xZ4a x := by
  obtain ⟨_, h⟩ := xZ8I (ts := [22, 3, 9, 5]) (by kernel_rfl) h
  obtain ⟨_, _, _, _, rfl, h0, h⟩ := xZ1K h
  obtain ⟨_, _, _, _, rfl, h1, h⟩ := xZ1K h
  obtain ⟨_, _, _, _, rfl, h2, h⟩ := xZ1K h
  obtain ⟨_, _, _, _, rfl, h3, h⟩ := xZ1K h
  obtain rfl := xZcA h
  obtain ⟨x0, rfl, k0⟩ := xZ8h _ _ h0
  obtain ⟨x1, rfl, k1⟩ := xZ18 _ _ h1
  obtain ⟨x2, rfl, k2⟩ := xZv _ _ h2
  obtain ⟨x3, rfl, k3⟩ := xZ17 _ _ h3
  exact ⟨⟨x0, x1, x2, x3⟩, rfl, ⟨k0, k1, k2, k3⟩⟩
def xZ4R (x : xZ7) : Prop := okS x.Name ∧ (inK .u8) x.Kind
def xZ4o (x : xZ2) : Prop := okS x.Name ∧ (okL xZ4R) x.Fields
theorem xZ8p {H : Type} (d : DataW H) (cs : List AV) (h : DAv prog 67 d cs) : ∃ x : xZ7, cs = [.v (.string (bs x.Name)), .v (.int .u8 x.Kind)] ∧ xZ4R x := by
  obtain ⟨_, h⟩ := xZ8I (ts := [9, 5]) (by kernel_rfl) h
  obtain ⟨_, _, _, _, rfl, h0, h⟩ := xZ1K h
  obtain ⟨_, _, _, _, rfl, h1, h⟩ := xZ1K h
  obtain rfl := xZcA h
  obtain ⟨x0, rfl, k0⟩ := xZv _ _ h0
  obtain ⟨x1, rfl, k1⟩ := xZ17 _ _ h1
  exact ⟨⟨x0, x1⟩, rfl, ⟨k0, k1⟩⟩
theorem xZ8B {H : Type} (d : DataW H) (cs : List AV) (h : DAv prog 63 d cs) : ∃ x : List xZ7, cs = [.sl 2 (List.map eA2 x)] ∧ (okL xZ4R) x := by
  obtain ⟨x, h, h1, h2⟩ := xZbG (e := 67) (k := 2) eA2 xZ4R (by kernel_rfl) (by kernel_rfl) (fun d cs h => by obtain ⟨x, h1, h2⟩ := xZ8p d cs h; subst h1; exact ⟨x, xZe5 (by kernel_rfl), h2⟩) h
  exact ⟨x, h, h1, h2⟩
theorem xZ8w {H : Type} (d : DataW H) (cs : List AV) (h : DAv prog 65 d cs) : ∃ x : xZ2, cs = [.v (.string (bs x.Name)), .sl 2 (List.map eA2 x.Fields)] ∧ xZ4o x := by
  obtain ⟨_, h⟩ := xZ8I (ts := [9, 63]) (by kernel_rfl) h
  obtain ⟨_, _, _, _, rfl, h0, h⟩ := xZ1K h
  obtain ⟨_, _, _, _, rfl, h1, h⟩ := xZ1K h
  obtain rfl := xZcA h
  obtain ⟨x0, rfl, k0⟩ := xZv _ _ h0
  obtain ⟨x1, rfl, k1⟩ := xZ8B _ _ h1
  exact ⟨⟨x0, x1⟩, rfl, ⟨k0, k1⟩⟩
theorem xZ8t {H : Type} (d : DataW H) (cs : List AV) (h : DAv prog 25 d cs) : ∃ x : List xZ2, cs = [.sl 2 (List.map eA3 x)] ∧ (okL xZ4o) x := by
  obtain ⟨x, h, h1, h2⟩ := xZbG (e := 65) (k := 2) eA3 xZ4o (by kernel_rfl) (by kernel_rfl) (fun d cs h => by obtain ⟨x, h1, h2⟩ := xZ8w d cs h; subst h1; exact ⟨x, xZe5 (by kernel_rfl), h2⟩) h
  exact ⟨x, h, h1, h2⟩
theorem xZ8y {H : Type} (d : DataW H) (cs : List AV) (h : DAv prog 45 d cs) : ∃ x : List Int, cs = [.sl 1 (List.map eA0 x)] ∧ (okL (inK .i64)) x := by
  obtain ⟨x, h, h1, h2⟩ := xZbG (e := 3) (k := 1) eA0 (inK .i64) (by kernel_rfl) (by kernel_rfl) (fun d cs h => by obtain ⟨x, h1, h2⟩ := xZ18 d cs h; subst h1; exact ⟨x, xZh3 (by kernel_rfl), h2⟩) h
  exact ⟨x, h, h1, h2⟩
theorem xZax {H : Type} (ds : List (DataW H)) (xs : List AV) (h : DAvV prog [24, 25, 45] ds xs) :
    ∃ (p : xZ6) (types : List xZ2) (choices : List Int), xs = [.agg [.sl 7 (List.map eA5 p.Body), .v (.int .i64 p.Within), .v (.string (bs p.By)), .v (.int .u8 p.Mode)], .sl 2 (List.map eA3 types), .sl 1 (List.map eA0 choices)] ∧ xZ4a p ∧ (okL xZ4o) types ∧ (okL (inK .i64)) choices := by
  obtain ⟨_, _, _, _, rfl, rfl, h0, h⟩ := xZfz h
  obtain ⟨_, _, _, _, rfl, rfl, h1, h⟩ := xZfz h
  obtain ⟨_, _, _, _, rfl, rfl, h2, h⟩ := xZfz h
  obtain ⟨rfl, rfl⟩ := xZlu h
  obtain ⟨x0, rfl, k0⟩ := xZ8F _ _ h0
  obtain ⟨x1, rfl, k1⟩ := xZ8t _ _ h1
  obtain ⟨x2, rfl, k2⟩ := xZ8y _ _ h2
  exact ⟨x0, x1, x2, by rw [xZe5 (by kernel_rfl), xZh3 (by kernel_rfl), xZh3 (by kernel_rfl)], k0, k1, k2⟩
end
section
section
section
theorem wall {α : Type} {f : Nat → Option α} {a : α} (h : ∀ N, f N = some a) : W f (· = a) := ⟨a, ⟨0, fun N _ => h N⟩, rfl⟩
end
section
theorem ncmp (a : Int) : compare a a = .eq := by simp [compare, compareOfLessAndEq]
theorem bcmp (a : Bool) : compare a.toNat a.toNat = .eq := by simp [compare, compareOfLessAndEq]
theorem xZm3 (n : Nat) : fcmpB .neq .f64 n n = decide (9218868437227405312 < n % 9223372036854775808) := by
  have h : FloatKind.f64.format = Ieee.double := rfl
  simp only [fcmpB, h, Ieee.Format.order, Ieee.Format.read]
  have e1 : Ieee.double.signWeight = 9223372036854775808 := by decide
  have e2 : Ieee.double.infRung = 9218868437227405312 := by decide
  have e3 : Ieee.double.binade = 4503599627370496 := by decide
  rw [e1, e2, e3]
  by_cases h1 : n % 9223372036854775808 < 4503599627370496
  · rw [if_pos h1, decide_eq_false (by omega)]; simp only [Ieee.Datum.order, ncmp]; rfl
  · by_cases h2 : n % 9223372036854775808 < 9218868437227405312
    · rw [if_neg h1, if_pos h2, decide_eq_false (by omega)]; simp only [Ieee.Datum.order, ncmp]; rfl
    · by_cases h3 : n % 9223372036854775808 = 9218868437227405312
      · rw [if_neg h1, if_neg h2, if_pos h3, decide_eq_false (by omega)]; simp only [Ieee.Datum.order, bcmp]; rfl
      · rw [if_neg h1, if_neg h2, if_neg h3, decide_eq_true (by omega)]; rfl
def cln (u : Int) : Int := if 9218868437227405312 < u.toNat % 9223372036854775808 then 9221120237041090560 else u
theorem xZfr (u : Int) (N : Nat) : xZ83 N u = some (cln u) := by
  simp only [xZ83, xZd1, Option.bind_some, xZm3, cln, decide_eq_true_eq, Bool.cond_eq_ite]
  split <;> rfl
def vchk (v : xZ5) : Int :=
  if v.Kind = 1 then (if v.N < -4611686018427387904 ∨ 4611686018427387904 < v.N then 8 else if v.Bits = 0 ∧ v.Text = [] then 0 else 2)
  else if v.Kind = 2 then (if v.N < 0 ∨ 1 < v.N then 8 else if v.Bits = 0 ∧ v.Text = [] then 0 else 2)
  else if v.Kind = 3 then (if cln v.Bits ≠ v.Bits then 4 else if v.N = 0 ∧ v.Text = [] then 0 else 2)
  else if v.Kind = 4 then (if 24 < v.Text.length then 5 else if v.N = 0 ∧ v.Bits = 0 then 0 else 2)
  else 11
theorem xZdz (v : xZ5) (N : Nat) : xZ6t N v = some (vchk v) := by
  have hc := xZfr v.Bits N
  simp only [xZ6t, xZ9i, vchk, Bool.cond_eq_ite, xZ8j]
  by_cases k1 : v.Kind = 1
  · simp [k1, xZ3R, xZi]; repeat' split
    all_goals first | rfl | (exfalso; omega) | simp_all [eq_comm]
  · by_cases k2 : v.Kind = 2
    · simp [k2, xZ3e]; repeat' split
      all_goals first | rfl | (exfalso; omega) | simp_all [eq_comm]
    · by_cases k3 : v.Kind = 3
      · simp [k3, xZ3N, hc]; repeat' split
        all_goals first | rfl | (exfalso; omega) | simp_all [eq_comm]
      · by_cases k4 : v.Kind = 4
        · simp [k4, xZ4q, xZi]; repeat' split
          all_goals first | rfl | (exfalso; omega) | simp_all [eq_comm]
        · simp [k1, k2, k3, k4]
end
section
def nResl : List (List UInt8) := [[119, 105, 116, 104, 105, 110], [98, 121], [97, 110, 100], [111, 114], [110, 111, 116], [97, 110, 121], [110, 101, 120, 116], [115, 116, 114, 105, 99, 116], [116, 114, 117, 101], [102, 97, 108, 115, 101]]
def nResv (s : List UInt8) : Bool := nResl.any (s == ·)
theorem xZeF (s : List UInt8) : W (fun N => xZ27 N s) (· = nResv s) := by
  refine wall fun N => ?_
  have e2 : ∀ (b r : Bool), (bif b then some true else some r) = some (b || r) := by intro b r; cases b <;> rfl
  unfold xZ27
  have e3 : ∀ (b r r' : Bool), (bif b then some (b || r') else some r) = some (b || r) := by intro b r r'; cases b <;> rfl
  have e4 : ∀ (b r : Bool), (bif b then some b else some r) = some (b || r) := by intro b r; cases b <;> rfl
  simp only [nResv, nResl, List.any_cons, List.any_nil, e2, e3, e4, Bool.or_false]
def nLtr (c : UInt8) : Bool := leB 97 (c.toNat : Int) && leB (c.toNat : Int) 122
def nTl (c : UInt8) : Bool := nLtr c || (leB 48 (c.toNat : Int) && leB (c.toNat : Int) 57) || ((c.toNat : Int) == 95)
def nm : List UInt8 → Bool
  | [] => false
  | c :: t => !(ltB 12 ((c :: t).length : Int)) && (nLtr c && (!nResv (c :: t) && t.all nTl))
theorem xZ8R (c : UInt8) (N : Nat) : xZ2i N (c.toNat : Int) = some (nLtr c) := by
  simp only [xZ2i, nLtr]; cases leB 97 (c.toNat : Int) <;> rfl
theorem xZdK (c : UInt8) (N : Nat) : xZ40 N (c.toNat : Int) = some (nTl c) := by
  simp only [xZ40, xZ8R, Option.bind_some, nTl]
  cases nLtr c <;> cases leB 48 (c.toNat : Int) <;> cases leB (c.toNat : Int) 57 <;> rfl
theorem xZ42 (s : List UInt8) : W (fun N => xZS N s) (· = nm s) := by
  cases s with
  | nil => exact wall fun _ => rfl
  | cons c t =>
    simp only [xZS, show ((c :: t) == ([] : List UInt8)) = false from rfl, cond_false, W.cond, W.ret, show ix (c :: t) 0 = some c from rfl, Option.bind_some, xZ8R]
    refine ⟨fun h => by simp only [nm, h, Bool.not_true, Bool.false_and], fun h => ⟨fun h' => ?_, fun h' => ?_⟩⟩
    · have h' : nLtr c = false := by simpa using h'
      simp only [nm, h', Bool.false_and, Bool.and_false]
    have h' : nLtr c = true := by simpa using h'
    simp only [nm, h, h', Bool.not_false, Bool.true_and]
    refine W.call (xZeF _) ?_
    rintro _ rfl
    simp only [W.cond, W.ret]
    refine ⟨fun h2 => by simp only [h2, Bool.not_true, Bool.false_and], fun h2 => ?_⟩
    simp only [h2, Bool.not_false, Bool.true_and]
    have hb := xZ19.1 h
    refine wr1 (l := c :: t) (fun _ rest => rest.all nTl) [c] t rfl rfl (by omega) ?_ ?_
    · intro F pre e rest hl h1 h2 h3 hn
      simp only [xZ2P, h1, h2, h3, Option.bind_some, cond_true, xZdK, W.cond, W.ret, xZ2r, List.all_cons]
      refine ⟨fun h => ?_, fun h => ?_⟩
      · have h : nTl e = false := by simpa using h
        simp only [h, Bool.false_and]
      · have h : nTl e = true := by simpa using h
        simp only [h, Bool.true_and]; exact hn
    · intro F h1
      simp only [xZ2P, h1, cond_false, W.ret, List.all_nil]
end
section
def zT : xZ3 := ⟨0, 0, [], ⟨0, 0, 0, []⟩⟩
def tk (y : List xZ3) (i : Nat) : xZ3 := y[i]?.getD zT
end
section
theorem W.shift {α : Type} {f : Nat → Option α} {Q : α → Prop} (h : W (fun N => f (N + 1)) Q) : W f Q := by
  obtain ⟨a, ⟨n, hn⟩, hq⟩ := h
  refine ⟨a, ⟨n + 1, fun N hN => ?_⟩, hq⟩
  obtain ⟨M, rfl⟩ : ∃ M, N = M + 1 := ⟨N - 1, by omega⟩
  exact hn M (by omega)
def bn (k : Int) : xZ1 := ⟨k, 0, [], [], ⟨0, 0, 0, []⟩⟩
end
section
def sgV (v : Int) : List UInt8 := if v = 1 then [61] else if v = 2 then [33, 61] else if v = 3 then [60] else if v = 4 then [60, 61] else if v = 5 then [62] else [62, 61]
end
section
def bad (n : xZ1) : Bool :=
  bif n.Kind == 4 then !(leB 1 n.Op && leB n.Op 6)
  else bif n.Kind == 7 then !nm n.Name
  else bif n.Kind == 8 then (!nm n.Name) || (!nm n.Var)
  else bif n.Kind == 9 then vchk n.Val != 0
  else false
def nds (n : xZ1) : Int := bif bad n then 4 else bif moreB n then 2 else 0
theorem xZkc (v : Int) (N : Nat) : ∃ s, xZ38 N v = some s ∧ (s == []) = !(leB 1 v && leB v 6) := by
  by_cases h : 1 ≤ v ∧ v ≤ 6
  · have h6 : v = 1 ∨ v = 2 ∨ v = 3 ∨ v = 4 ∨ v = 5 ∨ v = 6 := by omega
    rcases h6 with rfl | rfl | rfl | rfl | rfl | rfl <;> exact ⟨_, rfl, rfl⟩
  · refine ⟨[], ?_, ?_⟩
    · have e : ∀ k : Int, 1 ≤ k ∧ k ≤ 6 → (v == k) = false := fun k hk => by
        rw [beq_eq_false_iff_ne]; intro he; subst he; exact h hk
      simp only [xZ38, e 1 (by omega), e 2 (by omega), e 3 (by omega), e 4 (by omega), e 5 (by omega), e 6 (by omega), cond_false]
    · rw [xZ9S, xZ9S]
      have : ¬ (1 ≤ v ∧ v ≤ 6) := h
      by_cases h1 : 1 ≤ v
      · have : ¬ v ≤ 6 := fun h2 => h ⟨h1, h2⟩
        simp [h1, this]
      · simp [h1]
theorem xZnJ (n : xZ1) : W (fun N => xZ3I N n) (· = bad n) := by
  obtain ⟨k, op, va, na, v⟩ := n
  simp only [xZ3I, bad]
  by_cases h4 : k = 4
  · subst h4
    have e : ∀ N, ((xZ38 N op).bind fun sign => some (sign == [])) = some (!(leB 1 op && leB op 6)) := fun N => by
      obtain ⟨s, hs, h⟩ := xZkc op N
      rw [hs, Option.bind_some, h]
    simp only [show ((4 : Int) == 4) = true from rfl, cond_true, e, W.ret]
  simp only [show (k == 4) = false by simpa using h4, cond_false]
  by_cases h7 : k = 7
  · subst h7
    simp only [show ((7 : Int) == 7) = true from rfl, cond_true]
    refine W.call (xZ42 na) ?_
    rintro _ rfl
    simp only [W.ret]
  simp only [show (k == 7) = false by simpa using h7, cond_false]
  by_cases h8 : k = 8
  · subst h8
    simp only [show ((8 : Int) == 8) = true from rfl, cond_true]
    refine W.call (xZ42 na) ?_
    rintro _ rfl
    cases hn : nm na with
    | false => simp [W.ret]
    | true =>
      simp only [Bool.not_true, cond_false]
      refine W.call (xZ42 va) ?_
      rintro _ rfl
      simp [W.ret]
  simp only [show (k == 8) = false by simpa using h8, cond_false]
  by_cases h9 : k = 9
  · subst h9
    simp only [show ((9 : Int) == 9) = true from rfl, cond_true, xZdz, Option.bind_some, W.ret]
  simp only [show (k == 9) = false by simpa using h9, cond_false, W.ret]
end
section
def kdN (k : Int) : Int := if k = 1 ∨ k = 2 ∨ k = 4 ∨ k = 5 ∨ k = 6 then 2 else if k = 3 then 1 else 0
def kdW (k : Int) (x : Int) : Int := if k ≤ 3 then 0 else if k = 4 then 1 else if x = 0 then 1 else 2
def stB (k w : Int) : Bool := bif w == 0 then leB 1 k && leB k 4 else bif w == 1 then leB 5 k && leB k 9 else leB 7 k && leB k 9
abbrev TF := Int → Int → Nat → Int × Nat
def kids (p : TF) (k d : Int) (i : Nat) : Int × Nat :=
  if kdN k = 0 then (0, i)
  else if (p (kdW k 0) (d + 1) i).1 ≠ 0 ∨ kdN k = 1 then p (kdW k 0) (d + 1) i
  else p (kdW k 1) (d + 1) (p (kdW k 0) (d + 1) i).2
def trS (l : List xZ1) (p : TF) : TF := fun w d i =>
  match l[i]? with
  | none => (3, i)
  | some n => if 16 ≤ d then (15, i) else if stB n.Kind w = false then (11, i) else if nds n ≠ 0 then (nds n, i) else kids p n.Kind d (i + 1)
def TR (l : List xZ1) : Nat → TF
  | 0 => fun _ _ i => (3, i)
  | n + 1 => trS l (TR l n)
theorem xZpf (k : Int) (N : Nat) : xZ8G N k = some (kdN k) := by
  simp only [xZ8G, kdN]
  by_cases h1 : k = 1
  · subst h1; rfl
  by_cases h2 : k = 2
  · subst h2; rfl
  by_cases h4 : k = 4
  · subst h4; rfl
  by_cases h5 : k = 5
  · subst h5; rfl
  by_cases h6 : k = 6
  · subst h6; rfl
  simp only [show (k == 1) = false by simpa using h1, show (k == 2) = false by simpa using h2, show (k == 4) = false by simpa using h4, show (k == 5) = false by simpa using h5, show (k == 6) = false by simpa using h6, cond_false, h1, h2, h4, h5, h6, false_or, if_false]
  by_cases h3 : k = 3
  · subst h3; rfl
  · simp [h3, show (k == 3) = false by simpa using h3]
theorem e_kid (n : xZ1) (x : Int) (N : Nat) : xZ4O N n x = some (kdW n.Kind x) := by
  simp only [xZ4O, kdW, xZ9S]
  by_cases h3 : n.Kind ≤ 3
  · simp [h3]
  · by_cases h4 : n.Kind = 4
    · simp [h4]
    · by_cases hx : x = 0
      · simp [h3, h4, hx, show (n.Kind == 4) = false by simpa using h4]
      · simp [h3, h4, hx, show (x == 0) = false by simpa using hx, show (n.Kind == 4) = false by simpa using h4]
theorem xZkn (n : xZ1) (w : Int) (N : Nat) : xZ37 N n w = some (stB n.Kind w) := by
  simp only [xZ37, stB]
  cases w == 0 <;> cases w == 1 <;> cases leB 1 n.Kind <;> cases leB 5 n.Kind <;> cases leB 7 n.Kind <;> simp
theorem kdN_b (k : Int) : 0 ≤ kdN k ∧ kdN k ≤ 2 := by
  unfold kdN
  repeat' split
  all_goals omega
theorem xZmd {l : List xZ1} {i : Nat} : (leB (l.length : Int) (i : Int) = (l[i]?).isNone) ∧ ∀ n, l[i]? = some n → ix l (i : Int) = some n := by
  refine ⟨?_, fun n h => by rw [ix_nat', h]⟩
  rw [xZ9S, Bool.eq_iff_iff, decide_eq_true_iff, Option.isNone_iff_eq_none, List.getElem?_eq_none_iff]
  omega
theorem xZok {l : List xZ1} {p : TF} {n : xZ1} {d : Int} {i : Nat} (hl : l.length ≤ 30) (hd0 : 0 ≤ d) (hd : d < 16) (hp : ∀ (w : Int) (j : Nat), W (fun N => (xZB N) w (d + 1) l j) (· = ((p w (d + 1) j).1, l, ((p w (d + 1) j).2 : Int)))) :
    W (fun N => lp3 (xZ1w N (xZB N) d (kdN n.Kind) n.Kind n.Op n.Var n.Name n.Val.Kind n.Val.N n.Val.Bits n.Val.Text) N 0 l (i : Int)) (· = ((kids p n.Kind d i).1, l, ((kids p n.Kind d i).2 : Int))) := by
  have hb := kdN_b n.Kind
  refine W.lp3 (N := fun N => N) (fun x y j => y = l ∧ ((x = 0 ∧ j = (i : Int)) ∨ (x = 1 ∧ kdN n.Kind ≠ 0 ∧ (p (kdW n.Kind 0) (d + 1) i).1 = 0 ∧ j = ((p (kdW n.Kind 0) (d + 1) i).2 : Int)) ∨
    (x = 2 ∧ kdN n.Kind = 2 ∧ (p (kdW n.Kind 0) (d + 1) i).1 = 0 ∧ (p (kdW n.Kind 1) (d + 1) (p (kdW n.Kind 0) (d + 1) i).2).1 = 0 ∧ j = ((p (kdW n.Kind 1) (d + 1) (p (kdW n.Kind 0) (d + 1) i).2).2 : Int)))) (fun x _ _ => (3 - x).toNat) ⟨rfl, .inl ⟨rfl, rfl⟩⟩ ?_
  rintro F x y j ⟨rfl, h⟩ hn
  simp only [xZ1w, e_kid, Option.bind_some, W.cond, W.gd, xZi, xZ19, xZe, W.ret]
  rcases h with ⟨rfl, rfl⟩ | ⟨rfl, h1, h2, rfl⟩ | ⟨rfl, h1, h2, h3, rfl⟩
  · refine ⟨fun hx => ⟨by omega, ?_⟩, fun hx => ?_⟩
    · refine W.bind (hp _ i).lift ?_
      rintro _ rfl
      simp only [W.cond, W.gd, W.ret, xZe]
      refine ⟨fun h0 => ?_, fun h0 => ⟨by omega, hn _ _ _ ⟨rfl, .inr (.inl ⟨rfl, by omega, by simpa using h0, rfl⟩)⟩ (by omega)⟩⟩
      have h0 : (p (kdW n.Kind 0) (d + 1) i).1 ≠ 0 := by simpa using h0
      rw [kids, if_neg (by omega), if_pos (.inl h0)]
    · rw [kids, if_pos (by omega)]
  · refine ⟨fun hx => ⟨by omega, ?_⟩, fun hx => ?_⟩
    · refine W.bind (hp _ _).lift ?_
      rintro _ rfl
      simp only [W.cond, W.gd, W.ret, xZe]
      refine ⟨fun h0 => ?_, fun h0 => ⟨by omega, hn _ _ _ ⟨rfl, .inr (.inr ⟨rfl, by omega, h2, by simpa using h0, rfl⟩)⟩ (by omega)⟩⟩
      rw [kids, if_neg (by omega), if_neg (by intro h; rcases h with h | h <;> omega)]
    · rw [kids, if_neg h1, if_pos (.inr (by omega))]
      rw [h2]
  · refine ⟨fun hx => by omega, fun hx => ?_⟩
    rw [kids, if_neg (by omega), if_neg (by intro h; rcases h with h | h <;> omega), h3]
end
section
def okN (l : List xZ1) : Prop := ∀ n ∈ l, 0 ≤ n.Val.Bits ∧ n.Val.Bits ≤ 18446744073709551615
theorem xZpc (n : xZ1) : nds n = if bad n = true then 4 else if moreB n = true then 2 else 0 := by
  unfold nds
  cases bad n <;> cases moreB n <;> rfl
theorem xZmq {l : List xZ1} (hl : l.length ≤ 30) : ∀ (n : Nat) (w d : Int) (i : Nat), 0 ≤ d → d ≤ 16 → 16 - d + 1 ≤ n → W (fun N => (xZB N) w d l i) (· = ((TR l n w d i).1, l, ((TR l n w d i).2 : Int)))
  | 0, w, d, i, h0, h1, h2 => by omega
  | n + 1, w, d, i, h0, h1, h2 => by
    refine W.shift ?_
    show W (fun N => xZ2J N (xZB N) w d l i) _
    simp only [xZ2J, xZmd.1]
    show W _ (· = ((trS l (TR l n) w d i).1, l, ((trS l (TR l n) w d i).2 : Int)))
    unfold trS
    cases hg : l[i]? with
    | none => simp only [Option.isNone_none, cond_true, W.ret]
    | some nd =>
      have hi : i < 30 := by have := (List.getElem?_eq_some_iff.1 hg).1; omega
      simp only [Option.isNone_some, cond_false, xZmd.2 nd hg, Option.bind_some, xZ9S, xZkn]
      by_cases hd : 16 ≤ d
      · simp only [decide_eq_true hd, cond_true, if_pos hd, W.ret]
      simp only [decide_eq_false hd, cond_false, if_neg hd]
      cases hs : stB nd.Kind w with
      | false => simp only [Bool.not_false, cond_true, W.ret, if_true]
      | true =>
        simp only [Bool.not_true, cond_false, Bool.true_eq_false, if_false, xZ7Q, xZ7X, xZ5u]
        refine W.bind (P := (· = if bad nd = true then (4 : Int) else 0)) ?_ ?_
        · refine W.call (xZnJ nd) ?_
          rintro _ rfl
          cases bad nd <;> simp [W.ret]
        rintro _ rfl
        rw [xZpc]
        cases hb : bad nd with
        | true => simp [W.ret]
        | false =>
          cases hm : moreB nd with
          | true => simp [W.ret, hm]
          | false =>
            simp only [Bool.false_eq_true, if_false, show ((0 : Int) != 0) = false from rfl, cond_false, Option.bind_some, W.gd, xZe, xZpf, ne_eq, not_true_eq_false]
            refine ⟨by omega, ?_⟩
            have := xZok (l := l) (p := TR l n) (n := nd) (d := d) (i := i + 1) hl h0 (by omega) fun w j => xZmq hl n w (d + 1) j (by omega) (by omega) (by omega)
            simpa using this
def chk (l : List xZ1) : Int := if 30 < l.length then 5 else if l.length = 0 then 0 else if (TR l 17 0 0 0).1 ≠ 0 then (TR l 17 0 0 0).1 else if (TR l 17 0 0 0).2 < l.length then 5 else 0
theorem xZme (l : List xZ1) : W (fun N => xZ36 N l) (· = chk l) := by
  simp only [xZ36, chk, W.cond, xZi, xZ19, W.ret]
  refine ⟨fun h => by rw [if_pos (by omega)], fun h => ?_⟩
  rw [if_neg (by omega)]
  refine ⟨fun h2 => by rw [if_pos (by simpa using h2)], fun h2 => ?_⟩
  have h2 : ¬ l.length = 0 := by simpa using h2
  rw [if_neg h2]
  refine W.call (xZmq (l := l) (by omega) 17 0 0 0 (by omega) (by omega) (by omega)) ?_
  rintro _ rfl
  simp only [W.cond, W.ret, xZi, xZ19]
  refine ⟨fun h3 => by rw [if_pos (by simpa using h3)], fun h3 => ?_⟩
  rw [if_neg (by simpa using h3)]
  exact ⟨fun h4 => by rw [if_pos (by omega)], fun h4 => by rw [if_neg (by omega)]⟩
end
section
def zv : xZ5 := ⟨0, 0, 0, []⟩
def isD (c : UInt8) : Bool := leB 48 (c.toNat : Int) && leB (c.toNat : Int) 57
def hx (c : UInt8) : Option Nat := if isD c then some (c.toNat - 48) else if leB 97 (c.toNat : Int) && leB (c.toNat : Int) 102 then some (c.toNat - 87) else none
/-! ### Small facts -/
end
section
theorem xZo6 {α : Type} {l : List α} {k : Nat} {e : α} (h : l[k]? = some e) : l.drop k = e :: l.drop (k + 1) := by
  obtain ⟨h1, h2⟩ := List.getElem?_eq_some_iff.1 h
  rw [List.drop_eq_getElem_cons h1, h2]
end
section
inductive TU where
  | own (n : List UInt8)
  | of (v n : List UInt8)
  | lit (v : xZ5)
inductive TS where
  | u (a : TU)
  | op (k : Bool) (s : TS) (a : TU)
inductive TT where
  | or (a b : TT)
  | and (a b : TT)
  | not (a : TT)
  | test (o : Int) (a b : TS)
def TU.nd : TU → xZ1
  | .own n => ⟨7, 0, [], n, zv⟩
  | .of v n => ⟨8, 0, v, n, zv⟩
  | .lit v => ⟨9, 0, [], [], v⟩
def TS.fl : TS → List xZ1
  | .u a => [a.nd]
  | .op k s a => bn (if k then 6 else 5) :: (s.fl ++ [a.nd])
def TT.fl : TT → List xZ1
  | .or a b => bn 2 :: (a.fl ++ b.fl)
  | .and a b => bn 1 :: (a.fl ++ b.fl)
  | .not a => bn 3 :: a.fl
  | .test o a b => ⟨4, o, [], [], zv⟩ :: (a.fl ++ b.fl)
def TU.ok : TU → Prop
  | .own n => nm n = true
  | .of v n => nm v = true ∧ nm n = true
  | .lit v => vchk v = 0 ∧ 0 ≤ v.Bits ∧ v.Bits < 18446744073709551616
def TS.ok : TS → Prop
  | .u a => a.ok
  | .op _ s a => s.ok ∧ a.ok
def TT.ok : TT → Prop
  | .or a b => a.ok ∧ b.ok
  | .and a b => a.ok ∧ b.ok
  | .not a => a.ok
  | .test o a b => 1 ≤ o ∧ o ≤ 6 ∧ a.ok ∧ b.ok
def TT.ht : TT → Nat
  | .or a b => 1 + max a.ht b.ht
  | .and a b => 1 + max a.ht b.ht
  | .not a => 1 + a.ht
  | .test _ _ _ => 1
theorem xZcW {v : xZ5} (h : moreZ v = true) : v = zv := by
  obtain ⟨a, b, c, d⟩ := v
  simp only [moreZ, Bool.and_eq_true, beq_iff_eq] at h
  obtain ⟨rfl, rfl, rfl, rfl⟩ := h; rfl
theorem nds_0 {n : xZ1} (h : nds n = 0) : bad n = false ∧ moreB n = false := by
  unfold nds at h
  cases h1 : bad n <;> cases h2 : moreB n <;> rw [h1, h2] at h <;> first | exact ⟨rfl, rfl⟩ | cases h
theorem xZi6 {n : xZ1} (h : nds n = 0) (h4 : n.Kind ≠ 4) (h7 : n.Kind ≠ 7) (h8 : n.Kind ≠ 8) (h9 : n.Kind ≠ 9) : n = bn n.Kind := by
  obtain ⟨k, o, v, nn, w⟩ := n
  have := (nds_0 h).2
  simp only [moreB, show (k == 4) = false by simpa using h4, show (k == 7) = false by simpa using h7, show (k == 8) = false by simpa using h8, show (k == 9) = false by simpa using h9, cond_false, Bool.not_eq_false', Bool.and_eq_true, beq_iff_eq] at this
  obtain ⟨rfl, rfl, rfl, hz⟩ := this
  rw [xZcW hz]; rfl
theorem xZo1 {n : xZ1} (h : nds n = 0) (h4 : n.Kind = 4) : n = ⟨4, n.Op, [], [], zv⟩ ∧ 1 ≤ n.Op ∧ n.Op ≤ 6 := by
  obtain ⟨k, o, v, nn, w⟩ := n
  obtain ⟨h1, h2⟩ := nds_0 h
  simp only at h4; subst h4
  simp only [moreB, bad, show ((4 : Int) == 4) = true from rfl, cond_true, Bool.not_eq_false', Bool.and_eq_true, beq_iff_eq, xZ16] at h1 h2
  obtain ⟨rfl, rfl, hz⟩ := h2
  rw [xZcW hz]; exact ⟨rfl, h1⟩
theorem xZlr {n : xZ1} (h : nds n = 0) (hb : 0 ≤ n.Val.Bits ∧ n.Val.Bits ≤ 18446744073709551615) (hk : n.Kind = 7 ∨ n.Kind = 8 ∨ n.Kind = 9) : ∃ a : TU, a.ok ∧ n = a.nd := by
  obtain ⟨k, o, v, nn, w⟩ := n
  obtain ⟨h1, h2⟩ := nds_0 h
  simp only at hk hb
  rcases hk with rfl | rfl | rfl
  · simp only [moreB, bad, show ((7 : Int) == 4) = false from rfl, show ((7 : Int) == 7) = true from rfl, cond_true, cond_false, Bool.not_eq_false', Bool.and_eq_true, beq_iff_eq] at h1 h2
    obtain ⟨rfl, rfl, hz⟩ := h2
    rw [xZcW hz]
    exact ⟨.own nn, h1, rfl⟩
  · simp only [moreB, bad, show ((8 : Int) == 4) = false from rfl, show ((8 : Int) == 7) = false from rfl, show ((8 : Int) == 8) = true from rfl, cond_true, cond_false, Bool.not_eq_false', Bool.and_eq_true, Bool.or_eq_false_iff, beq_iff_eq] at h1 h2
    obtain ⟨rfl, hz⟩ := h2
    rw [xZcW hz]
    exact ⟨.of v nn, ⟨h1.2, h1.1⟩, rfl⟩
  · simp only [moreB, bad, show ((9 : Int) == 4) = false from rfl, show ((9 : Int) == 7) = false from rfl, show ((9 : Int) == 8) = false from rfl, show ((9 : Int) == 9) = true from rfl, cond_true, cond_false, Bool.not_eq_false', Bool.and_eq_true, beq_iff_eq, bne_eq_false_iff_eq] at h1 h2
    obtain ⟨rfl, rfl, rfl⟩ := h2
    exact ⟨.lit w, ⟨h1, hb.1, by omega⟩, rfl⟩
theorem xZm4 {l : List xZ1} {n : Nat} {w d : Int} {i j : Nat} (h : TR l (n + 1) w d i = (0, j)) : ∃ nd, l[i]? = some nd ∧ d < 16 ∧ stB nd.Kind w = true ∧ nds nd = 0 ∧ kids (TR l n) nd.Kind d (i + 1) = (0, j) := by
  simp only [TR, trS] at h
  cases hl : l[i]? with
  | none => rw [hl] at h; cases h
  | some nd =>
    rw [hl] at h; simp only at h
    by_cases h1 : 16 ≤ d
    · rw [if_pos h1] at h; cases h
    rw [if_neg h1] at h
    by_cases h2 : stB nd.Kind w = false
    · rw [if_pos h2] at h; cases h
    rw [if_neg h2] at h
    by_cases h3 : nds nd ≠ 0
    · rw [if_pos h3] at h; exact absurd (Prod.mk.inj h).1 h3
    rw [if_neg h3] at h
    exact ⟨nd, rfl, by omega, by simpa using h2, by simpa using h3, h⟩
theorem kids2 {p : TF} {k d : Int} {i j : Nat} (hk : kdN k = 2) (h : kids p k d i = (0, j)) : ∃ m, p (kdW k 0) (d + 1) i = (0, m) ∧ p (kdW k 1) (d + 1) m = (0, j) := by
  rw [kids, if_neg (by omega)] at h
  by_cases h0 : (p (kdW k 0) (d + 1) i).1 ≠ 0
  · rw [if_pos (.inl h0)] at h; rw [h] at h0; exact absurd rfl h0
  · rw [if_neg (by intro q; rcases q with q | q <;> omega)] at h
    exact ⟨_, Prod.ext (by simpa using h0) rfl, h⟩
theorem kids1 {p : TF} {k d : Int} {i j : Nat} (hk : kdN k = 1) (h : kids p k d i = (0, j)) : p (kdW k 0) (d + 1) i = (0, j) := by
  rwa [kids, if_neg (by omega), if_pos (.inr hk)] at h
theorem kids0 {p : TF} {k d : Int} {i j : Nat} (hk : kdN k = 0) (h : kids p k d i = (0, j)) : j = i := by
  rw [kids, if_pos hk] at h; cases h; rfl
theorem xZaF {l : List xZ1} (ho : okN l) : ∀ (n : Nat) (w d : Int) (i j : Nat), TR l n w d i = (0, j) →
    (w = 2 → ∃ a : TU, a.ok ∧ l.drop i = a.nd :: l.drop j ∧ j = i + 1) ∧
    (w = 1 → ∃ s : TS, s.ok ∧ l.drop i = s.fl ++ l.drop j ∧ j = i + s.fl.length) ∧
    (w = 0 → ∃ t : TT, t.ok ∧ l.drop i = t.fl ++ l.drop j ∧ j = i + t.fl.length ∧ d + t.ht ≤ 16)
  | 0, w, d, i, j, h => by simp only [TR] at h; cases h
  | n + 1, w, d, i, j, h => by
    obtain ⟨nd, hi, hd, hst, hn, hk⟩ := xZm4 h
    have hdr := xZo6 hi
    have hb := ho nd (List.mem_of_getElem? hi)
    have unit : (nd.Kind = 7 ∨ nd.Kind = 8 ∨ nd.Kind = 9) → ∃ a : TU, a.ok ∧ l.drop i = a.nd :: l.drop j ∧ j = i + 1 := fun h3 => by
      obtain ⟨a, h4, h5⟩ := xZlr hn hb h3
      obtain rfl := kids0 (by rcases h3 with h3 | h3 | h3 <;> rw [h3] <;> rfl) hk
      exact ⟨a, h4, by rw [hdr, h5], rfl⟩
    refine ⟨?_, ?_, ?_⟩
    · rintro rfl
      simp only [stB, show ((2 : Int) == 0) = false from rfl, show ((2 : Int) == 1) = false from rfl, cond_false, Bool.and_eq_true, xZ16] at hst
      exact unit (by omega)
    · rintro rfl
      simp only [stB, show ((1 : Int) == 0) = false from rfl, show ((1 : Int) == 1) = true from rfl, cond_true, cond_false, Bool.and_eq_true, xZ16] at hst
      by_cases h7 : 7 ≤ nd.Kind
      · obtain ⟨a, h4, h5, h6⟩ := unit (by omega)
        exact ⟨.u a, h4, h5, h6⟩
      · have key : ∀ b : Bool, nd.Kind = (if b then 6 else 5) → ∃ s : TS, s.ok ∧ l.drop i = s.fl ++ l.drop j ∧ j = i + s.fl.length := fun b hbk => by
          have h56 : nd.Kind = 5 ∨ nd.Kind = 6 := by cases b <;> simp at hbk <;> omega
          obtain ⟨m, k1, k2⟩ := kids2 (by rcases h56 with h | h <;> rw [h] <;> rfl) hk
          have e0 : kdW nd.Kind 0 = 1 := by rcases h56 with h | h <;> rw [h] <;> rfl
          have e1 : kdW nd.Kind 1 = 2 := by rcases h56 with h | h <;> rw [h] <;> rfl
          rw [e0] at k1; rw [e1] at k2
          obtain ⟨s, s1, s2, s3⟩ := (xZaF ho n 1 (d + 1) (i + 1) m k1).2.1 rfl
          obtain ⟨a, a1, a2, a3⟩ := (xZaF ho n 2 (d + 1) m j k2).1 rfl
          refine ⟨.op b s a, ⟨s1, a1⟩, ?_, ?_⟩
          · rw [hdr, s2, a2, xZi6 hn (by omega) (by omega) (by omega) (by omega), hbk]
            simp [TS.fl]
          · simp only [TS.fl, List.length_cons, List.length_append, List.length_nil]; omega
        by_cases h6 : nd.Kind = 6
        · exact key true h6
        · exact key false (by simp only [Bool.false_eq_true, if_false]; omega)
    · rintro rfl
      simp only [stB, show ((0 : Int) == 0) = true from rfl, cond_true, Bool.and_eq_true, xZ16] at hst
      have two : (nd.Kind = 1 ∨ nd.Kind = 2) → ∃ a b : TT, a.ok ∧ b.ok ∧ l.drop i = bn nd.Kind :: (a.fl ++ b.fl) ++ l.drop j ∧ j = i + (1 + a.fl.length + b.fl.length) ∧ d + (1 + max a.ht b.ht : Nat) ≤ 16 := fun h12 => by
        obtain ⟨m, k1, k2⟩ := kids2 (by rcases h12 with h | h <;> rw [h] <;> rfl) hk
        have e0 : kdW nd.Kind 0 = 0 := by rcases h12 with h | h <;> rw [h] <;> rfl
        have e1 : kdW nd.Kind 1 = 0 := by rcases h12 with h | h <;> rw [h] <;> rfl
        rw [e0] at k1; rw [e1] at k2
        obtain ⟨a, a1, a2, a3, a4⟩ := (xZaF ho n 0 (d + 1) (i + 1) m k1).2.2 rfl
        obtain ⟨b, b1, b2, b3, b4⟩ := (xZaF ho n 0 (d + 1) m j k2).2.2 rfl
        refine ⟨a, b, a1, b1, ?_, by omega, by omega⟩
        rw [hdr, a2, b2]
        conv => lhs; rw [xZi6 hn (by omega) (by omega) (by omega) (by omega)]
        simp
      by_cases h1 : nd.Kind = 1
      · obtain ⟨a, b, q1, q2, q3, q4, q5⟩ := two (.inl h1)
        rw [h1] at q3
        exact ⟨.and a b, ⟨q1, q2⟩, q3, by simp only [TT.fl, List.length_cons, List.length_append]; omega, q5⟩
      by_cases h2 : nd.Kind = 2
      · obtain ⟨a, b, q1, q2, q3, q4, q5⟩ := two (.inr h2)
        rw [h2] at q3
        exact ⟨.or a b, ⟨q1, q2⟩, q3, by simp only [TT.fl, List.length_cons, List.length_append]; omega, q5⟩
      by_cases h3 : nd.Kind = 3
      · have k1 := kids1 (by rw [h3]; rfl) hk
        rw [show kdW nd.Kind 0 = 0 by rw [h3]; rfl] at k1
        obtain ⟨a, a1, a2, a3, a4⟩ := (xZaF ho n 0 (d + 1) (i + 1) j k1).2.2 rfl
        refine ⟨.not a, a1, ?_, by simp only [TT.fl, List.length_cons]; omega, by simp only [TT.ht]; omega⟩
        rw [hdr, a2, xZi6 hn (by omega) (by omega) (by omega) (by omega), h3]; rfl
      · have h4 : nd.Kind = 4 := by omega
        obtain ⟨m, k1, k2⟩ := kids2 (by rw [h4]; rfl) hk
        rw [show kdW nd.Kind 0 = 1 by rw [h4]; rfl] at k1
        rw [show kdW nd.Kind 1 = 1 by rw [h4]; rfl] at k2
        obtain ⟨a, a1, a2, a3⟩ := (xZaF ho n 1 (d + 1) (i + 1) m k1).2.1 rfl
        obtain ⟨b, b1, b2, b3⟩ := (xZaF ho n 1 (d + 1) m j k2).2.1 rfl
        obtain ⟨g1, g2, g3⟩ := xZo1 hn h4
        refine ⟨.test nd.Op a b, ⟨g2, g3, a1, b1⟩, ?_, by simp only [TT.fl, List.length_cons, List.length_append]; omega, by simp only [TT.ht]; omega⟩
        rw [hdr, a2, b2]
        conv => lhs; rw [g1]
        simp [TT.fl]
theorem xZk3 {l : List xZ1} (ho : okN l) (h : chk l = 0) (hl : l ≠ []) : ∃ t : TT, t.ok ∧ l = t.fl ∧ t.ht ≤ 16 ∧ l.length ≤ 30 := by
  have h0 : ¬ l.length = 0 := fun h => hl (List.eq_nil_of_length_eq_zero h)
  unfold chk at h
  by_cases h1 : 30 < l.length
  · rw [if_pos h1] at h; cases h
  rw [if_neg h1, if_neg h0] at h
  by_cases h2 : (TR l 17 0 0 0).1 ≠ 0
  · rw [if_pos h2] at h; exact absurd h h2
  rw [if_neg h2] at h
  by_cases h3 : (TR l 17 0 0 0).2 < l.length
  · rw [if_pos h3] at h; cases h
  obtain ⟨t, t1, t2, t3, t4⟩ := (xZaF ho 17 0 0 0 (TR l 17 0 0 0).2 (Prod.ext (by simpa using h2) rfl)).2.2 rfl
  refine ⟨t, t1, ?_, by omega, by omega⟩
  rw [List.drop_eq_nil_of_le (by omega : l.length ≤ (TR l 17 0 0 0).2), List.append_nil, List.drop_zero] at t2
  exact t2
end
section
abbrev Tk := Int × List UInt8 × xZ5
def ke (t : xZ3) : Tk := (t.Kind, t.Text, t.Val)
def sg (s : List UInt8) : Tk := (4, s, zv)
def kw (s : List UInt8) : Tk := (2, s, zv)
def M (y : List xZ3) : Nat → List Tk → Prop
  | _, [] => True
  | i, t :: ts => ke (tk y i) = t ∧ M y (i + 1) ts
def TU.tk : TU → List Tk
  | .own n => [(1, n, zv)]
  | .of v n => [(1, v, zv), sg [46], (1, n, zv)]
  | .lit v => if v.Kind = 1 ∧ v.N < 0 then [sg [45], (3, [], ⟨1, -v.N, 0, []⟩)] else [(3, [], v)]
def TS.tk : TS → List Tk
  | .u a => a.tk
  | .op k s a => s.tk ++ sg (if k then [45] else [43]) :: a.tk
def TT.bd : TT → Nat
  | .or _ _ => 1
  | .and _ _ => 2
  | _ => 3
def brk (c : Bool) (l : List Tk) : List Tk := if c then sg [40] :: (l ++ [sg [41]]) else l
def TT.tk : TT → List Tk
  | .or a b => brk (decide (a.bd < 1)) a.tk ++ kw [111, 114] :: brk (decide (b.bd < 2)) b.tk
  | .and a b => brk (decide (a.bd < 2)) a.tk ++ kw [97, 110, 100] :: brk (decide (b.bd < 3)) b.tk
  | .not a => kw [110, 111, 116] :: brk (decide (a.bd < 3)) a.tk
  | .test o a b => a.tk ++ sg (sgV o) :: b.tk
end
section
inductive GT where
  | leaf (neg : Bool) (v t : List UInt8) (o : Option TT)
  | rep (lo hi : Int) (a : GT)
  | lst (alt : Bool) (bs : List GT)
def kA (alt : Bool) : Int := if alt then 2 else 1
def kL (neg : Bool) : Int := if neg then 5 else 4
def oT : Option TT → List xZ1
  | none => []
  | some t => t.fl
def oK : Option TT → Prop
  | none => True
  | some t => t.ok ∧ t.ht ≤ 16 ∧ t.fl.length ≤ 30 ∧ chk t.fl = 0
theorem oT_of {l : List xZ1} (ho : okN l) (h : chk l = 0) : ∃ o, oK o ∧ l = oT o := by
  by_cases hl : l = []
  · exact ⟨none, trivial, hl⟩
  · obtain ⟨t, h1, h2, h3, h4⟩ := xZk3 ho h hl
    exact ⟨some t, ⟨h1, h3, h2 ▸ h4, h2 ▸ h⟩, h2⟩
mutual
def GT.fl : GT → List xZ0
  | .leaf neg v t o => [⟨kL neg, 0, 0, 0, v, t, oT o⟩]
  | .rep lo hi a => ⟨3, 1, lo, hi, [], [], []⟩ :: GT.fl a
  | .lst alt bs => ⟨kA alt, (bs.length : Int), 0, 0, [], [], []⟩ :: GT.fls bs
def GT.fls : List GT → List xZ0
  | [] => []
  | a :: r => GT.fl a ++ GT.fls r
end
mutual
def GT.ok : GT → Int → Prop
  | .leaf neg v t o, w => (neg = true → w ≠ 3) ∧ nm v = true ∧ nm t = true ∧ oK o
  | .rep lo hi a, w => (0 ≤ lo ∧ lo ≤ 8 ∧ 0 ≤ hi ∧ hi ≤ 8 ∧ ¬ (lo = 1 ∧ hi = 1) ∧ (hi = 0 ∨ lo ≤ hi)) ∧ GT.ok a 3
  | .lst alt bs, w => kA alt ≠ w ∧ 2 ≤ bs.length ∧ bs.length ≤ 40 ∧ GT.oks bs (kA alt)
def GT.oks : List GT → Int → Prop
  | [], _ => True
  | a :: r, w => GT.ok a w ∧ GT.oks r w
end
mutual
def GT.dp : GT → Nat
  | .leaf .. => 1
  | .rep _ _ a => GT.dp a + 1
  | .lst _ bs => GT.dps bs + 1
def GT.dps : List GT → Nat
  | [] => 0
  | a :: r => max (GT.dp a) (GT.dps r)
end
theorem xZ6u : ∀ (a b : List GT), GT.fls (a ++ b) = GT.fls a ++ GT.fls b
  | [], b => rfl
  | x :: a, b => by simp only [List.cons_append, GT.fls, xZ6u a b, List.append_assoc]
section
variable (n : xZ0)
def isLs : Bool := n.Kind == 1 || n.Kind == 2
theorem e_ls (N : Nat) : xZ26 N n = some (isLs n) := by
  simp only [xZ26, isLs]; cases n.Kind == 1 <;> rfl
def stG (w : Int) : Bool := !(ltB n.Kind 1) && (!(ltB 5 n.Kind) && (if isLs n = true then n.Kind != w else (n.Kind != 5 || w != 3)))
theorem e_stG (w : Int) (N : Nat) : xZ2R N n w = some (stG n w) := by
  simp only [xZ2R, e_ls, Option.bind_some, stG]
  cases ltB n.Kind 1 <;> cases ltB 5 n.Kind <;> cases isLs n <;> simp
  cases h : (n.Kind != 5) <;> simp_all
def ofG : Bool := !(ltB n.Lo 0) && (!(ltB 8 n.Lo) && (!(ltB n.Hi 0) && (!(ltB 8 n.Hi) && (!((n.Lo == 1) && (n.Hi == 1)) && ((n.Hi == 0) || leB n.Lo n.Hi)))))
theorem e_ofG (N : Nat) : xZ3c N n = some (ofG n) := by
  simp only [xZ3c, ofG]
  cases ltB n.Lo 0 <;> cases ltB 8 n.Lo <;> cases ltB n.Hi 0 <;> cases ltB 8 n.Hi <;> cases n.Lo == 1 <;> cases n.Hi == 1 <;> cases n.Hi == 0 <;> rfl
def lkG : Bool := if isLs n = true then (ltB n.Kids 2 || ltB 40 n.Kids) else if n.Kind = 3 then (n.Kids != 1 || !ofG n) else (!nm n.Var || (!nm n.Type_ || chk n.Test != 0))
theorem w_lkG : W (fun N => xZ3a N n) (· = lkG n) := by
  simp only [xZ3a, e_ls, Option.bind_some, e_ofG, lkG]
  cases h : isLs n
  · simp only [cond_false, Bool.false_eq_true, if_false]
    by_cases h3 : n.Kind = 3
    · simp only [h3, beq_self_eq_true, cond_true, if_true]
      cases n.Kids != 1 <;> simp [W.ret]
    · simp only [show (n.Kind == 3) = false by simpa using h3, cond_false, if_neg h3]
      refine W.call (xZ42 _) ?_
      rintro _ rfl
      cases nm n.Var
      · simp [W.ret]
      · simp only [Bool.not_true, cond_false, Bool.false_or]
        refine W.call (xZ42 _) ?_
        rintro _ rfl
        cases nm n.Type_
        · simp [W.ret]
        · simp only [Bool.not_true, cond_false, Bool.false_or]
          refine W.call (xZme _) ?_
          rintro _ rfl
          simp only [W.ret]
  · simp only [cond_true, if_true]
    cases ltB n.Kids 2 <;> simp [W.ret]
def lfG : Bool := n.Kind == 4 || n.Kind == 5
theorem e_lf (N : Nat) : xZQ N n = some (lfG n) := by
  simp only [xZQ, lfG]; cases n.Kind == 4 <;> rfl
def moG : Bool := if lfG n = true then (n.Lo != 0 || n.Hi != 0 || n.Kids != 0) else ((!(n.Var == []) || !(n.Type_ == []) || ltB 0 (n.Test.length : Int)) || (n.Lo != 0 || n.Hi != 0) && n.Kind != 3)
theorem e_moG (N : Nat) : xZ3J N n = some (moG n) := by
  simp only [xZ3J, e_lf, Option.bind_some, moG]
  cases n.Lo != 0 <;> cases n.Hi != 0 <;> cases n.Var == [] <;> cases n.Type_ == [] <;> cases lfG n <;> cases ltB 0 (n.Test.length : Int) <;> rfl
def kdG : Int := if isLs n = true then max 0 (min n.Kids 40) else if n.Kind = 3 then 1 else 0
theorem e_kdG (N : Nat) : xZ2M N n = some (kdG n) := by
  simp only [xZ2M, e_ls, Option.bind_some, kdG]
  cases isLs n
  · by_cases h : n.Kind = 3
    · simp [h]
    · simp [h, show (n.Kind == 3) = false by simpa using h]
  · simp
end
theorem xZmG {n : xZ0} {w : Int} (h1 : stG n w = true) (h2 : lkG n = false) (h3 : moG n = false) :
    (∃ neg v t l, n = ⟨kL neg, 0, 0, 0, v, t, l⟩ ∧ (neg = true → w ≠ 3) ∧ nm v = true ∧ nm t = true ∧ chk l = 0 ∧ kdG n = 0) ∨
    (∃ lo hi, n = ⟨3, 1, lo, hi, [], [], []⟩ ∧ (0 ≤ lo ∧ lo ≤ 8 ∧ 0 ≤ hi ∧ hi ≤ 8 ∧ ¬ (lo = 1 ∧ hi = 1) ∧ (hi = 0 ∨ lo ≤ hi)) ∧ kdG n = 1) ∨
    (∃ alt k, n = ⟨kA alt, k, 0, 0, [], [], []⟩ ∧ kA alt ≠ w ∧ 2 ≤ k ∧ k ≤ 40 ∧ kdG n = k) := by
  obtain ⟨K, k, lo, hi, v, t, l⟩ := n
  simp only [stG, Bool.and_eq_true, Bool.not_eq_true', xZ7G, decide_eq_false_iff_not] at h1
  obtain ⟨a1, a2, a3⟩ := h1
  have hK : K = 1 ∨ K = 2 ∨ K = 3 ∨ K = 4 ∨ K = 5 := by omega
  rcases hK with rfl | rfl | rfl | rfl | rfl
  · refine .inr (.inr ⟨false, k, ?_⟩)
    simp [isLs, lkG, moG, lfG, kA, kdG, xZ7G] at a3 h2 h3 ⊢
    obtain ⟨⟨⟨h5, h6⟩, h7⟩, h8, h9⟩ := h3
    exact ⟨⟨h8, h9, h5, h6, h7⟩, a3, h2.1, h2.2, by omega⟩
  · refine .inr (.inr ⟨true, k, ?_⟩)
    simp [isLs, lkG, moG, lfG, kA, kdG, xZ7G] at a3 h2 h3 ⊢
    obtain ⟨⟨⟨h5, h6⟩, h7⟩, h8, h9⟩ := h3
    exact ⟨⟨h8, h9, h5, h6, h7⟩, a3, h2.1, h2.2, by omega⟩
  · refine .inr (.inl ⟨lo, hi, ?_⟩)
    simp [isLs, lkG, moG, lfG, kA, kdG, xZ7G, xZ9S, ofG] at a3 h2 h3 ⊢
    obtain ⟨⟨h5, h6⟩, h7⟩ := h3
    obtain ⟨q0, q1, q2, q3, q4, q5, q6⟩ := h2
    exact ⟨⟨q0, h5, h6, h7⟩, q1, q2, q3, q4, q5, by omega⟩
  · refine .inl ⟨false, v, t, l, ?_⟩
    simp [isLs, lkG, moG, lfG, kL, kdG] at a3 h2 h3 ⊢
    exact ⟨⟨h3.2, h3.1.1, h3.1.2⟩, h2⟩
  · refine .inl ⟨true, v, t, l, ?_⟩
    simp [isLs, lkG, moG, lfG, kL, kdG] at a3 h2 h3 ⊢
    exact ⟨⟨h3.2, h3.1.1, h3.1.2⟩, a3, h2⟩
abbrev TGF := List xZ0 → Int → Int → List xZ0 × Int
def kidsG (f : List xZ0 → List xZ0 × Int) : Nat → List xZ0 → List xZ0 × Int
  | 0, r => (r, 0)
  | k + 1, r => if (f r).2 = 0 then kidsG f k (f r).1 else ([], (f r).2)
def TG : Nat → TGF
  | 0 => fun _ _ _ => ([], 15)
  | n + 1 => fun l w d => match l with
    | [] => ([], 3)
    | e :: r => if 16 ≤ d then ([], 15) else if stG e w = false then ([], 11) else if lkG e = true then ([], 4) else if moG e = true then ([], 2) else kidsG (fun r => TG n r e.Kind (d + 1)) (kdG e).toNat r
theorem xZnC (e : xZ0) : 0 ≤ kdG e ∧ kdG e ≤ 40 := by
  unfold kdG
  split
  · omega
  · split <;> omega
theorem xZjx : ∀ (n : Nat) (l : List xZ0) (w d : Int), 0 ≤ d → d ≤ 16 → 17 - d ≤ n → W (fun N => (xZ6d N) l w d) (· = TG n l w d)
  | 0, l, w, d, h1, h2, h3 => by omega
  | n + 1, l, w, d, h1, h2, h3 => by
    refine W.shift ?_
    show W (fun N => xZ9n N (xZ6d N) l w d) _
    cases l with
    | nil => exact wall fun _ => rfl
    | cons e r =>
      have e0 : ix (e :: r) 0 = some e := rfl
      have el : ((List.length (e :: r) : Int) == 0) = false := by simp only [List.length_cons]; simpa using (by omega : ¬ ((r.length : Int) + 1 = 0))
      have eg : leB 1 (List.length (e :: r) : Int) = true := xZ16.2 (by simp only [List.length_cons]; omega)
      simp only [xZ9n, el, cond_false, e0, Option.bind_some, e_stG, e_moG, e_kdG, eg, xZ2r, TG]
      by_cases hd : 16 ≤ d
      · simp only [show leB 16 d = true from xZ16.2 hd, cond_true, if_pos hd, W.ret]
      have hd' : leB 16 d = false := by rw [xZ9S]; simpa using hd
      simp only [hd', cond_false, if_neg hd]
      cases hs : stG e w
      · simp [W.ret]
      simp only [Bool.not_true, cond_false, Bool.true_eq_false, if_false]
      refine W.call (w_lkG e) ?_
      rintro _ rfl
      cases hk : lkG e
      rotate_left
      · simp [W.ret]
      simp only [cond_false, Bool.false_eq_true, if_false]
      cases hm : moG e
      rotate_left
      · simp [W.ret]
      simp only [cond_false, Bool.false_eq_true, if_false]
      obtain ⟨k0, k1⟩ := xZnC e
      refine W.lp2 (P := fun rest x => 0 ≤ x ∧ x ≤ kdG e ∧ kidsG (fun r => TG n r e.Kind (d + 1)) (kdG e - x).toNat rest = kidsG (fun r => TG n r e.Kind (d + 1)) (kdG e).toNat r) (m := fun _ x => (kdG e - x).toNat) ⟨by omega, by omega, by simp⟩ ?_
      rintro F rest x ⟨x0, x1, x2⟩ hn
      simp only [xZ7Z]
      by_cases hx : x < kdG e
      · obtain ⟨m, hm⟩ : ∃ m, (kdG e - x).toNat = m + 1 := ⟨(kdG e - x).toNat - 1, by omega⟩
        simp only [show ltB x (kdG e) = true from xZi.2 hx, cond_true, W.gd, xZe]
        refine ⟨by omega, W.bind (W.lift (xZjx n rest e.Kind (d + 1) (by omega) (by omega) (by omega))) ?_⟩
        rintro _ rfl
        rw [hm, kidsG] at x2
        by_cases hc : (TG n rest e.Kind (d + 1)).2 = 0
        · rw [if_pos hc] at x2
          simp only [show ((TG n rest e.Kind (d + 1)).2 != 0) = false by simpa using hc, cond_false, W.gd, xZe]
          refine ⟨by omega, hn _ _ ⟨by omega, by omega, ?_⟩ (by omega)⟩
          rw [show (kdG e - (x + 1)).toNat = m by omega]
          exact x2
        · rw [if_neg hc] at x2
          simp only [show ((TG n rest e.Kind (d + 1)).2 != 0) = true by simpa using hc, cond_true, W.ret]
          exact x2
      · obtain rfl : x = kdG e := by omega
        have : ltB (kdG e) (kdG e) = false := by rw [xZ7G]; simp
        simp only [this, cond_false, W.ret]
        rw [Int.sub_self] at x2
        exact x2
def wdS (m : Int) : List UInt8 := if m = 1 then [97, 110, 121] else if m = 2 then [110, 101, 120, 116] else if m = 3 then [115, 116, 114, 105, 99, 116] else []
theorem e_wd (m : Int) (N : Nat) : xZ5L N m = some (wdS m) := by
  simp only [xZ5L, wdS]
  by_cases h1 : m = 1
  · subst h1; rfl
  by_cases h2 : m = 2
  · subst h2; rfl
  by_cases h3 : m = 3
  · subst h3; rfl
  simp [h1, h2, h3, show (m == 1) = false by simpa using h1, show (m == 2) = false by simpa using h2, show (m == 3) = false by simpa using h3]
def chkG (p : xZ6) : Int :=
  if 40 < p.Body.length then 5 else if (TG 17 p.Body 0 0).2 ≠ 0 then (TG 17 p.Body 0 0).2 else if 0 < (TG 17 p.Body 0 0).1.length then 5
  else if p.Within < 1 then 8 else if 1073741824 < p.Within then 8 else if p.By ≠ [] ∧ nm p.By = false then 4 else if wdS p.Mode = [] then 11 else 0
theorem xZd5 (p : xZ6) : W (fun N => xZ4W N p) (· = chkG p) := by
  simp only [xZ4W, e_wd, Option.bind_some]
  unfold chkG
  by_cases h0 : 40 < p.Body.length
  · simp only [show ltB 40 (p.Body.length : Int) = true from xZi.2 (by omega), cond_true, if_pos h0, W.ret]
  have g0 : ltB 40 (p.Body.length : Int) = false := by rw [xZ7G]; exact decide_eq_false (by omega)
  simp only [g0, cond_false, if_neg h0, xZ99]
  refine W.call (xZjx 17 p.Body 0 0 (by omega) (by omega) (by omega)) ?_
  rintro _ rfl
  generalize TG 17 p.Body 0 0 = q
  by_cases h1 : q.2 = 0
  rotate_left
  · simp only [show (q.2 != 0) = true by simpa using h1, cond_true, if_pos h1, W.ret]
  simp only [show (q.2 != 0) = false by simpa using h1, cond_false, if_neg (show ¬ q.2 ≠ 0 from fun h => h h1)]
  by_cases h2 : 0 < q.1.length
  · simp only [show ltB 0 (q.1.length : Int) = true from xZi.2 (by omega), cond_true, if_pos h2, W.ret]
  have g2 : ltB 0 (q.1.length : Int) = false := by rw [xZ7G]; exact decide_eq_false (by omega)
  simp only [g2, cond_false, if_neg h2]
  by_cases h3 : p.Within < 1
  · simp only [show ltB p.Within 1 = true from xZi.2 h3, cond_true, if_pos h3, W.ret]
  have g3 : ltB p.Within 1 = false := by rw [xZ7G]; exact decide_eq_false h3
  simp only [g3, cond_false, if_neg h3]
  by_cases h4 : 1073741824 < p.Within
  · simp only [show ltB 1073741824 p.Within = true from xZi.2 h4, cond_true, if_pos h4, W.ret]
  have g4 : ltB 1073741824 p.Within = false := by rw [xZ7G]; exact decide_eq_false h4
  simp only [g4, cond_false, if_neg h4]
  by_cases h5 : p.By = []
  · simp only [h5, show (!(([] : List UInt8) == [])) = false from rfl, cond_false, if_neg (show ¬ (([] : List UInt8) ≠ [] ∧ _) from fun h => h.1 rfl)]
    by_cases h6 : wdS p.Mode = []
    · simp [h6, W.ret]
    · simp [h6, W.ret, show (wdS p.Mode == []) = false by simpa using h6]
  · simp only [show (!(p.By == [])) = true by simpa using h5, cond_true]
    refine W.call (xZ42 _) ?_
    rintro _ rfl
    cases h6 : nm p.By
    · simp [h5, W.ret]
    · simp only [Bool.not_true, cond_false]
      by_cases h7 : wdS p.Mode = []
      · simp [h7, W.ret]
      · simp [h7, W.ret, show (wdS p.Mode == []) = false by simpa using h7]
theorem xZdJ {w : Int} {f : List xZ0 → List xZ0 × Int} {D : Nat} (hf : ∀ l r, (∀ n ∈ l, okN n.Test) → f l = (r, 0) → ∃ t : GT, t.ok w ∧ t.dp ≤ D ∧ l = t.fl ++ r) : ∀ (k : Nat) (l r : List xZ0), (∀ n ∈ l, okN n.Test) → kidsG f k l = (r, 0) → ∃ bs : List GT, bs.length = k ∧ GT.oks bs w ∧ GT.dps bs ≤ D ∧ l = GT.fls bs ++ r
  | 0, l, r, _, h => by cases h; exact ⟨[], rfl, trivial, Nat.zero_le _, rfl⟩
  | k + 1, l, r, hb, h => by
    rw [kidsG] at h
    split at h
    · rename_i hc
      obtain ⟨t, q1, q2, q3⟩ := hf l (f l).1 hb (by rw [← hc])
      obtain ⟨bs, p1, p2, p3, p4⟩ := xZdJ hf k _ _ (fun n hn => hb n (by rw [q3]; exact List.mem_append_right _ hn)) h
      exact ⟨t :: bs, by simp [p1], ⟨q1, p2⟩, by simp only [GT.dps]; omega, by rw [GT.fls, List.append_assoc, ← p4, ← q3]⟩
    · rename_i hc
      exact absurd (Prod.mk.inj h).2 hc
theorem xZgQ : ∀ (n : Nat) (l r : List xZ0) (w : Int) (d : Nat), (∀ n ∈ l, okN n.Test) → TG n l w d = (r, 0) → ∃ t : GT, t.ok w ∧ t.dp + d ≤ 16 ∧ l = t.fl ++ r
  | 0, l, r, w, d, _, h => by cases h
  | n + 1, [], r, w, d, _, h => by cases h
  | n + 1, e :: l, r, w, d, hb, h => by
    simp only [TG] at h
    split at h
    · cases h
    rename_i hd
    split at h
    · cases h
    rename_i hs
    split at h
    · cases h
    rename_i hk
    split at h
    · cases h
    rename_i hm
    have ih : ∀ l r, (∀ n ∈ l, okN n.Test) → TG n l e.Kind ((d : Int) + 1) = (r, 0) → ∃ t : GT, t.ok e.Kind ∧ t.dp ≤ 15 - d ∧ l = t.fl ++ r := fun l r hb hh => by
      obtain ⟨t, q1, q2, q3⟩ := xZgQ n l r e.Kind (d + 1) hb (by rw [← hh]; congr 1)
      exact ⟨t, q1, by omega, q3⟩
    obtain ⟨bs, p1, p2, p3, p4⟩ := xZdJ ih _ _ _ (fun n hn => hb n (List.mem_cons_of_mem _ hn)) h
    rcases xZmG (by simpa using hs) (by simpa using hk) (by simpa using hm) with ⟨neg, v, t, l', rfl, g1, g2, g3, g4, g5⟩ | ⟨lo, hi, rfl, g1, g2⟩ | ⟨alt, k, rfl, g1, g2, g3, g4⟩
    · rw [g5] at p1
      obtain rfl : bs = [] := List.length_eq_zero_iff.1 p1
      obtain ⟨o, k1, rfl⟩ := oT_of (hb _ (List.mem_cons_self ..)) g4
      exact ⟨.leaf neg v t o, ⟨g1, g2, g3, k1⟩, by simp only [GT.dp]; omega, by rw [p4]; rfl⟩
    · rw [g2] at p1
      obtain ⟨a, rfl⟩ : ∃ a, bs = [a] := List.length_eq_one_iff.1 p1
      exact ⟨.rep lo hi a, ⟨g1, p2.1⟩, by simp only [GT.dp, GT.dps] at p3 ⊢; omega, by rw [p4]; simp [GT.fl, GT.fls]⟩
    · rw [g4] at p1
      have hb : (bs.length : Int) = k := by omega
      exact ⟨.lst alt bs, ⟨g1, by omega, by omega, p2⟩, by simp only [GT.dp]; omega, by rw [p4, ← hb]; rfl⟩
theorem xZiV {p : xZ6} (hb : ∀ n ∈ p.Body, okN n.Test) (h : chkG p = 0) : p.Body.length ≤ 40 ∧ 1 ≤ p.Within ∧ p.Within ≤ 1073741824 ∧ (p.By = [] ∨ nm p.By = true) ∧ (p.Mode = 1 ∨ p.Mode = 2 ∨ p.Mode = 3) ∧ ∃ t : GT, t.ok 0 ∧ t.dp ≤ 16 ∧ p.Body = t.fl := by
  unfold chkG at h
  split at h
  · cases h
  split at h
  · rename_i q; exact absurd h q
  split at h
  · cases h
  split at h
  · cases h
  split at h
  · cases h
  split at h
  · cases h
  split at h
  · cases h
  rename_i h1 h2 h3 h4 h5 h6 h7
  have hr : (TG 17 p.Body 0 0).1 = [] := List.length_eq_zero_iff.1 (by omega)
  obtain ⟨t, q1, q2, q3⟩ := xZgQ 17 p.Body [] 0 0 hb (Prod.ext hr (by simpa using h2))
  refine ⟨by omega, by omega, by omega, ?_, ?_, t, q1, q2, by simpa using q3⟩
  · by_cases hb : p.By = []
    · exact .inl hb
    · exact .inr (by simpa [hb] using h6)
  · unfold wdS at h7
    by_cases a1 : p.Mode = 1
    · exact .inl a1
    by_cases a2 : p.Mode = 2
    · exact .inr (.inl a2)
    by_cases a3 : p.Mode = 3
    · exact .inr (.inr a3)
    simp [a1, a2, a3] at h7
end
section
open Go Classical
theorem xZnT (v : xZ5) (hv : okS v.Text) : W (fun N => xZ6n N v) fun r => ¬ 0 < r → v.Text.length ≤ 100 := by
  have := xZoZ hv
  simp only [xZ6n, W.gd, W.ret, xZe]
  exact ⟨by omega, fun h => by omega⟩
theorem xZoP (l : List xZ1) (hl : l.length ≤ 10000) : W (fun N => xZ8L N l) (· = l) := by
  simp only [xZ8L]
  refine wf2a (l := l) (fun pre ys => ys = pre) [] rfl rfl (by omega) rfl ?_ ?_
  · rintro F pre e rest ys hl' h1 h2 h3 rfl hn
    simp only [xZ6a, h1, h2, h3, Option.bind_some, cond_true, W.gd, true_and]
    refine ⟨Nat.ble_eq_true_of_le (by rw [hl'] at hl; simp at hl; omega), hn _ rfl⟩
  · rintro F ys h1 rfl
    simp only [xZ6a, h1, cond_false, W.ret]
theorem xZn7 (l : List xZ1) (hl : okL (fun n : xZ1 => okS n.Val.Text) l) : W (fun N => xZ85 N l) fun b => ¬ 0 < b → l.length ≤ 40 ∧ ∀ n ∈ l, n.Var.length ≤ 40 ∧ n.Name.length ≤ 40 ∧ n.Val.Text.length ≤ 100 := by
  have hlen : l.length ≤ 9223372036854775807 := hl.2
  simp only [xZ85, W.cond, W.ret, xZi, xZ19]
  refine ⟨fun h h2 => absurd (by omega) h2, fun h => ?_⟩
  refine wf1 (l := l) (fun pre => ∀ n ∈ pre, n.Var.length ≤ 40 ∧ n.Name.length ≤ 40 ∧ n.Val.Text.length ≤ 100) [] rfl rfl (by omega) (by simp) ?_ ?_
  · intro F pre e rest hl' h1 h2 h3 hp hn
    have he := hl.1 e (by rw [hl']; simp)
    simp only [xZ5s, h1, h2, h3, Option.bind_some, cond_true, W.cond, W.ret, xZ2r, xZi, xZ19]
    refine ⟨fun _ h => absurd (by omega) h, fun h40 => ⟨fun _ h => absurd (by omega) h, fun h41 => ?_⟩⟩
    refine W.call (xZnT e.Val he) fun b hb => ?_
    simp only [W.cond, W.ret, xZi, xZ19]
    refine ⟨fun _ h => absurd (by omega) h, fun hb0 => hn fun t ht => ?_⟩
    rcases List.mem_append.1 ht with ht | ht
    · exact hp t ht
    · rw [List.mem_singleton.1 ht]; exact ⟨by omega, by omega, hb (by omega)⟩
  · intro F h1 hp
    simp only [xZ5s, h1, cond_false, W.ret]
    exact fun _ => ⟨by omega, hp⟩
theorem xZmn (p : xZ6) (hp : xZ4a p) : W (fun N => xZ7O N p) fun b => ¬ 0 < b → p.Body.length ≤ 50 ∧ p.By.length ≤ 40 ∧ ∀ n ∈ p.Body, n.Test.length ≤ 40 := by
  have hlen : p.Body.length ≤ 9223372036854775807 := hp.1.2
  simp only [xZ7O, W.cond, W.ret, xZi, xZ19]
  refine ⟨fun h h2 => absurd (by omega) h2, fun h => ⟨fun h' h2 => absurd (by omega) h2, fun h' => ?_⟩⟩
  refine wf1 (l := p.Body) (fun pre => ∀ n ∈ pre, n.Test.length ≤ 40) [] rfl rfl (by omega) (by simp) ?_ ?_
  · intro F pre e rest hl' h1 h2 h3 hq hn
    have he := hp.1.1 e (by rw [hl']; simp)
    have ht := he.2.2.2.2.2.2
    simp only [xZ5b, h1, h2, h3, Option.bind_some, cond_true, W.cond, W.ret, xZ2r, xZi, xZ19]
    refine ⟨fun _ h => absurd (by omega) h, fun h40 => ⟨fun _ h => absurd (by omega) h, fun h41 => ?_⟩⟩
    refine W.call (xZn7 e.Test ⟨fun n hn => (ht.1 n hn).2.2.2.2.2.2.2, ht.2⟩) fun b hb => ?_
    simp only [W.cond, W.ret, xZi, xZ19]
    refine ⟨fun _ h => absurd (by omega) h, fun hb0 => hn fun t ht => ?_⟩
    rcases List.mem_append.1 ht with ht | ht
    · exact hq t ht
    · rw [List.mem_singleton.1 ht]; exact (hb (by omega)).1
  · intro F h1 hq
    simp only [xZ5b, h1, cond_false, W.ret]
    exact fun _ => ⟨by omega, by omega, hq⟩
theorem xZoJ (p : xZ6) (h50 : p.Body.length ≤ 50) (ht : ∀ n ∈ p.Body, n.Test.length ≤ 40) : W (fun N => xZ8O N p) (· = p) := by
  simp only [xZ8O]
  refine wf2a (l := p.Body) (fun pre ys => ys = pre) [] rfl rfl (by omega) rfl ?_ ?_
  · rintro F pre e rest ys hl' h1 h2 h3 rfl hn
    simp only [xZ6p, h1, h2, Option.bind_some, cond_true]
    refine W.call (xZoP e.Test (by have := ht e (by rw [hl']; simp); omega)) ?_
    rintro _ rfl
    simp only [h3, W.gd, true_and]
    exact ⟨Nat.ble_eq_true_of_le (by rw [hl'] at h50; simp at h50; omega), hn _ rfl⟩
  · rintro F ys h1 rfl
    simp only [xZ6p, h1, cond_false, W.ret]
end
end
section
structure WS where
  tk : Int
  out : List Int
  en : Bool
def WS.ok (s : WS) : Prop := 0 ≤ s.tk ∧ s.tk ≤ 200 ∧ s.out.length ≤ 100 ∧ (s.en = false → s.out.length < 100)
def cho (cs : List Int) (s : WS) : Int × WS := if s.tk = 200 then (0, ⟨s.tk, s.out, true⟩) else (max 0 (min 8 (cs.getD s.tk.toNat 0)), ⟨s.tk + 1, s.out, s.en⟩)
def iterW (f : WS → WS) : Nat → WS → WS
  | 0, s => s
  | n + 1, s => if s.en then s else iterW f n (f s)
def timG (lo hi c : Int) : Int := if 0 < hi then min (lo + c) hi else lo + c
mutual
def GT.wk (cs : List Int) : GT → Nat → WS → WS
  | .leaf _ _ _ _, i, s => if s.en then s else ⟨s.tk, s.out ++ [(i : Int)], ((s.out ++ [(i : Int)]).length : Int) == 100⟩
  | .rep lo hi a, i, s => if s.en then s else iterW (fun s => GT.wk cs a (i + 1) s) (timG lo hi (cho cs s).1).toNat (cho cs s).2
  | .lst alt bs, i, s => if s.en then s else if alt then GT.wkp cs bs ((cho cs s).1.toNat % bs.length) (i + 1) (cho cs s).2 else GT.wks cs bs (i + 1) s
def GT.wkp (cs : List Int) : List GT → Nat → Nat → WS → WS
  | [], _, _, s => s
  | b :: bs, k, i, s => if k = 0 then GT.wk cs b i s else GT.wkp cs bs (k - 1) (i + (GT.fl b).length) s
def GT.wks (cs : List Int) : List GT → Nat → WS → WS
  | [], _, s => s
  | b :: bs, i, s => if s.en then s else GT.wks cs bs (i + (GT.fl b).length) (GT.wk cs b i s)
end
section
variable {cs : List Int}
theorem xZcp {s : WS} (h : s.ok) : (cho cs s).2.ok ∧ 0 ≤ (cho cs s).1 ∧ (cho cs s).1 ≤ 8 := by
  obtain ⟨h1, h2, h3, h4⟩ := h
  unfold cho
  split
  · exact ⟨⟨h1, h2, h3, fun h => (by cases h)⟩, by omega, by omega⟩
  · exact ⟨⟨by show 0 ≤ s.tk + 1; omega, by show s.tk + 1 ≤ 200; omega, h3, h4⟩, by show 0 ≤ max 0 _; omega, by show max 0 (min 8 _) ≤ 8; omega⟩
theorem xZf1 {f : WS → WS} {s : WS} (h : s.en = true) : ∀ n, iterW f n s = s
  | 0 => rfl
  | n + 1 => by simp [iterW, h]
theorem xZiR {s : WS} (h : s.en = true) (bs : List GT) (i : Nat) : GT.wks cs bs i s = s := by
  cases bs with
  | nil => simp [GT.wks]
  | cons b bs => simp [GT.wks, h]
theorem xZhg {f : WS → WS} (hf : ∀ s, s.ok → (f s).ok) : ∀ (n : Nat) (s : WS), s.ok → (iterW f n s).ok
  | 0, s, h => h
  | n + 1, s, h => by
    unfold iterW
    split
    · exact h
    · exact xZhg hf n _ (hf s h)
mutual
theorem wk_ok : ∀ (t : GT) (i : Nat) (s : WS), s.ok → (GT.wk cs t i s).ok
  | .leaf _ _ _ _, i, s, h => by
    rw [GT.wk]
    split
    · exact h
    · rename_i he
      obtain ⟨h1, h2, h3, h4⟩ := h
      have h5 := h4 (by simpa using he)
      refine ⟨h1, h2, by simp; omega, fun h => ?_⟩
      simp at h ⊢
      omega
  | .rep lo hi a, i, s, h => by
    rw [GT.wk]
    split
    · exact h
    · exact xZhg (fun s hs => wk_ok a (i + 1) s hs) _ _ (xZcp h).1
  | .lst alt bs, i, s, h => by
    rw [GT.wk]
    split
    · exact h
    · split
      · exact xZl7 bs _ _ _ (xZcp h).1
      · exact xZnV bs _ _ h
theorem xZl7 : ∀ (bs : List GT) (k i : Nat) (s : WS), s.ok → (GT.wkp cs bs k i s).ok
  | [], k, i, s, h => by rw [GT.wkp]; exact h
  | b :: bs, k, i, s, h => by
    rw [GT.wkp]
    split
    · exact wk_ok b i s h
    · exact xZl7 bs _ _ s h
theorem xZnV : ∀ (bs : List GT) (i : Nat) (s : WS), s.ok → (GT.wks cs bs i s).ok
  | [], i, s, h => by rw [GT.wks]; exact h
  | b :: bs, i, s, h => by
    rw [GT.wks]
    split
    · exact h
    · exact xZnV bs _ _ (wk_ok b i s h)
end
theorem xZfZ (a b : List GT) : (GT.fls (a ++ b)).length = (GT.fls a).length + (GT.fls b).length := by rw [xZ6u, List.length_append]
theorem xZh2 {b : GT} {bs2 : List GT} : ∀ (bs1 : List GT) (i : Nat) (s : WS), GT.wkp cs (bs1 ++ b :: bs2) bs1.length i s = GT.wk cs b (i + (GT.fls bs1).length) s
  | [], i, s => by simp [GT.wkp, GT.fls]
  | a :: bs1, i, s => by
    rw [List.cons_append, GT.wkp, if_neg (by simp), List.length_cons, Nat.add_sub_cancel, xZh2 bs1, GT.fls, List.length_append, Nat.add_assoc]
theorem xZkR : ∀ t : GT, ∃ e r, t.fl = e :: r
  | .leaf .. => ⟨_, _, rfl⟩
  | .rep .. => ⟨_, _, rfl⟩
  | .lst .. => ⟨_, _, rfl⟩
theorem xZaZ {α : Type} {l pre r : List α} {e : α} (h : l = pre ++ e :: r) : ix l (pre.length : Int) = some e := by
  rw [ix_nat', h]; simp
def GT.kd : GT → List GT
  | .leaf .. => []
  | .rep _ _ a => [a]
  | .lst _ bs => bs
theorem fl_kd (t : GT) : ∃ e, t.fl = e :: GT.fls t.kd ∧ ∀ w, t.ok w → kdG e = (t.kd.length : Int) := by
  cases t with
  | leaf neg v ty o => exact ⟨_, rfl, fun w h => by cases neg <;> rfl⟩
  | rep lo hi a => exact ⟨_, by simp [GT.fl, GT.kd, GT.fls]; rfl, fun w h => rfl⟩
  | lst alt bs =>
    refine ⟨_, rfl, fun w h => ?_⟩
    obtain ⟨_, _, h3, _⟩ := h
    have : isLs (⟨kA alt, (bs.length : Int), 0, 0, [], [], []⟩ : xZ0) = true := by cases alt <;> rfl
    simp only [kdG, this, if_true, GT.kd]
    omega
theorem kd_ok {t : GT} {w : Int} (h : t.ok w) : ∃ w', GT.oks t.kd w' := by
  cases t with
  | leaf => exact ⟨0, trivial⟩
  | rep lo hi a => exact ⟨3, h.2, trivial⟩
  | lst alt bs => exact ⟨_, h.2.2.2⟩
def oksA (ts : List GT) : Prop := ∀ t ∈ ts, ∃ w, GT.ok t w
theorem oks_A : ∀ {ts : List GT} {w : Int}, GT.oks ts w → oksA ts
  | [], w, h => fun t ht => by cases ht
  | a :: ts, w, h => fun t ht => by
    rcases List.mem_cons.1 ht with rfl | ht
    · exact ⟨w, h.1⟩
    · exact oks_A h.2 t ht
theorem kdA {t : GT} {ts : List GT} (h : oksA (t :: ts)) : oksA (t.kd ++ ts) := fun x hx => by
  rcases List.mem_append.1 hx with hx | hx
  · obtain ⟨w, hw⟩ := h t (by simp)
    obtain ⟨w', hw'⟩ := kd_ok hw
    exact oks_A hw' x hx
  · exact h x (by simp [hx])
theorem xZik {pre post : List xZ0} {t : GT} {w : Int} (ht : t.ok w) {l : List xZ0} (hl : l = pre ++ (t.fl ++ post)) (hb : l.length ≤ 1000) : W (fun N => xZ2H N l (pre.length : Int)) (· = (t.fl.length : Int)) := by
  have hpos : 0 < t.fl.length := by obtain ⟨e, r, h⟩ := xZkR t; rw [h]; simp
  have hlen : l.length = pre.length + (t.fl.length + post.length) := by rw [hl]; simp
  have hdr : List.drop pre.length l = t.fl ++ post := by rw [hl]; simp
  simp only [xZ2H, show ltB (pre.length : Int) 0 = false from xZ19.2 (by omega), cond_false, show leB (l.length : Int) (pre.length : Int) = false from xZjI.2 (by omega), show leB 0 (pre.length : Int) = true from xZ16.2 (by omega), show leB (pre.length : Int) (l.length : Int) = true from xZ16.2 (by omega), xZ2r, Int.toNat_natCast, hdr]
  refine W.lp2 (P := fun lack x => ∃ (ts : List GT) (m : Nat), oksA ts ∧ ts ≠ [] ∧ lack = (ts.length : Int) ∧ x = (m : Int) ∧ m ≤ t.fl.length ∧ (t.fl ++ post).drop m = GT.fls ts ++ post ∧ m + (GT.fls ts).length = t.fl.length) (m := fun _ x => (t.fl.length : Int).toNat - x.toNat)
    ⟨[t], 0, fun x hx => ⟨w, by rw [List.mem_singleton.1 hx]; exact ht⟩, by simp, rfl, rfl, by omega, by simp [GT.fls], by simp [GT.fls]⟩ ?_
  rintro F lack x ⟨ts, m, h1, h2, rfl, rfl, h3, h4, h5⟩ hn
  cases ts with
  | nil => exact absurd rfl h2
  | cons a ts =>
    obtain ⟨e, he, hk⟩ := fl_kd a
    obtain ⟨wa, ha⟩ := h1 a (by simp)
    have hk := hk wa ha
    rw [GT.fls, he] at h4 h5
    have hm : m < t.fl.length := by simp at h5; omega
    have hix : ix (t.fl ++ post) (m : Int) = some e := by
      rw [ix_nat', ← List.head?_drop, h4]; simp
    have hts : ts.length ≤ 100000 := by
      have : ∀ us : List GT, us.length ≤ (GT.fls us).length := fun us => by
        induction us with
        | nil => simp
        | cons u us ih =>
          obtain ⟨e, r, h⟩ := xZkR u
          rw [GT.fls, h]; simp; omega
      have := this ts
      simp at h5; omega
    simp only [xZ80, show ltB (m : Int) ((t.fl ++ post).length : Int) = true from xZi.2 (by simp; omega), cond_true, hix, Option.bind_some, e_kdG, hk]
    have hkb : a.kd.length ≤ 100000 := by
      have := xZnC e
      omega
    simp only [W.gd, xZe, List.length_cons]
    refine ⟨by omega, by omega, ?_⟩
    have hl2 : (((ts.length + 1 : Nat) : Int) + ((a.kd.length : Int) - 1)) = ((a.kd ++ ts).length : Int) := by simp; omega
    rw [hl2]
    have hd1 : (t.fl ++ post).drop (m + 1) = GT.fls (a.kd ++ ts) ++ post := by
      rw [← List.drop_drop, h4, xZ6u]; simp
    have hs1 : m + 1 + (GT.fls (a.kd ++ ts)).length = t.fl.length := by
      rw [xZ6u]; simp at h5 ⊢; omega
    by_cases hz : a.kd ++ ts = []
    · simp only [hz, List.length_nil, show (((0 : Nat) : Int) == 0) = true from rfl, cond_true, W.gd, xZe, W.ret]
      rw [hz] at hs1
      simp only [GT.fls, List.length_nil] at hs1
      exact ⟨by omega, by omega⟩
    · have hz' : (((a.kd ++ ts).length : Int) == 0) = false := by
        have : (a.kd ++ ts).length ≠ 0 := fun h => hz (List.length_eq_zero_iff.1 h)
        rw [beq_eq_false_iff_ne]; omega
      simp only [hz', cond_false, W.gd, xZe]
      refine ⟨by omega, hn _ _ ⟨a.kd ++ ts, m + 1, kdA h1, hz, rfl, by omega, by omega, hd1, hs1⟩ (by omega)⟩
end
end
section
theorem xZm2 {cs : List Int} {i : Nat} (h : i < cs.length) (d : Int) : cs.getD i d = cs[i] := by simp [List.getD, h]
theorem xZdd {body : List xZ0} {cs : List Int} {s : WS} (h : s.ok) (N : Nat) : xZu N body cs s.tk s.en s.out = some ((cho cs s).1, body, cs, (cho cs s).2.tk, (cho cs s).2.en, (cho cs s).2.out) := by
  obtain ⟨h1, h2, h3, h4⟩ := h
  unfold xZu cho
  by_cases h5 : s.tk = 200
  · simp [h5]
  · rw [if_neg h5]
    simp only [show (s.tk == 200) = false by simpa using h5, cond_false, show i64b (s.tk + 1) = true from xZe.2 (by omega), xZ2r]
    obtain ⟨n, hn⟩ := Int.eq_ofNat_of_zero_le h1
    by_cases h6 : (cs.length : Int) < s.tk + 1
    · simp only [show ltB (cs.length : Int) (s.tk + 1) = true from xZi.2 h6, cond_true]
      rw [hn] at h6 ⊢
      have : cs.getD (n : Int).toNat 0 = 0 := by
        rw [List.getD, List.getElem?_eq_none (by simp; omega)]; rfl
      rw [this]; rfl
    · simp only [show ltB (cs.length : Int) (s.tk + 1) = false from xZ19.2 (by omega), cond_false, show s.tk + 1 - 1 = s.tk by omega, show i64b s.tk = true from xZe.2 (by omega), xZ2r]
      have h7 : s.tk.toNat < cs.length := by omega
      rw [show ix cs s.tk = some cs[s.tk.toNat] by rw [ix, if_pos h1]; simp [h7], xZm2 h7, Option.bind_some, Int.min_comm]
theorem xZfV {body : List xZ0} {cs : List Int} {s : WS} (h : s.ok) (N : Nat) : xZK N body cs s.tk s.en = some ((cho cs s).1, body, cs, (cho cs s).2.tk, (cho cs s).2.en) := by
  have := xZdd (body := body) (cs := cs) h N
  unfold xZu at this
  unfold xZK
  by_cases h5 : s.tk = 200
  · simp [h5, cho]
  · obtain ⟨h1, h2, h3, h4⟩ := h
    simp only [show (s.tk == 200) = false by simpa using h5, cond_false, show i64b (s.tk + 1) = true from xZe.2 (by omega), xZ2r] at this ⊢
    by_cases h6 : (cs.length : Int) < s.tk + 1
    · simp only [show ltB (cs.length : Int) (s.tk + 1) = true from xZi.2 h6, cond_true] at this ⊢
      simp only [Option.some.injEq, Prod.mk.injEq, true_and] at this ⊢
      exact ⟨this.1, this.2.1, this.2.2.1⟩
    · simp only [show ltB (cs.length : Int) (s.tk + 1) = false from xZ19.2 (by omega), cond_false, show i64b (s.tk + 1 - 1) = true from xZe.2 (by omega), xZ2r] at this ⊢
      cases hx : ix cs (s.tk + 1 - 1) with
      | none => rw [hx] at this; cases this
      | some e =>
        rw [hx] at this
        simp only [Option.bind_some, Option.some.injEq, Prod.mk.injEq, true_and] at this ⊢
        exact ⟨this.1, this.2.1, this.2.2.1⟩
theorem xZaH (cs : List Int) (s : WS) : (cho cs s).2.out = s.out := by unfold cho; split <;> rfl
section
variable {body : List xZ0} {cs : List Int}
def R9 (body : List xZ0) (cs : List Int) (s : WS) (r : (List xZ0 × List Int × Int × Bool × List Int) ⊕ (List xZ0 × List Int × Int × Bool × List Int)) : Prop := r = .inl (body, cs, s.tk, s.en, s.out) ∨ r = .inr (body, cs, s.tk, s.en, s.out)
def P9 (body : List xZ0) (cs : List Int) (t : GT) : Prop := ∀ (pre post : List xZ0) (s : WS), s.ok → body = pre ++ (t.fl ++ post) → W (fun N => (xZa N) (pre.length : Int) body cs s.tk s.en s.out) (R9 body cs (t.wk cs pre.length s))
theorem xZlm {neg : Bool} {v ty : List UInt8} {o : Option TT} : P9 body cs (.leaf neg v ty o) := by
  intro pre post s hs hb
  refine W.shift ?_
  show W (fun N => xZs N (xZa N) _ _ _ _ _ _) _
  have hix := xZaZ (l := body) (pre := pre) (e := ⟨kL neg, 0, 0, 0, v, ty, oT o⟩) (r := post) hb
  obtain ⟨h1, h2, h3, h4⟩ := hs
  rw [GT.wk]
  simp only [xZs, hix, Option.bind_some]
  cases he : s.en
  · simp only [cond_false, Bool.false_eq_true, if_false]
    have hl : ∀ N, xZJ N ⟨kL neg, 0, 0, 0, v, ty, oT o⟩ = some true := fun N => by cases neg <;> rfl
    simp only [hl, Option.bind_some, cond_true, W.gd, W.ret]
    exact ⟨Nat.ble_eq_true_of_le (by omega), .inr rfl⟩
  · simp only [cond_true, if_true, W.ret]
    exact .inl (by rw [← he])
theorem xZpg {lo hi : Int} {a : GT} {w : Int} (h : (GT.rep lo hi a).ok w) (ih : P9 body cs a) (hlen : body.length ≤ 1000) : P9 body cs (.rep lo hi a) := by
  intro pre post s hs hb
  refine W.shift ?_
  show W (fun N => xZs N (xZa N) _ _ _ _ _ _) _
  have hix := xZaZ (l := body) (pre := pre) (e := ⟨3, 1, lo, hi, [], [], []⟩) (r := a.fl ++ post) (by rw [hb]; simp [GT.fl])
  have hpl : pre.length ≤ 1000 := by rw [hb] at hlen; simp at hlen; omega
  obtain ⟨⟨l1, l2, l3, l4, _, _⟩, _⟩ := h
  rw [GT.wk]
  simp only [xZs, hix, Option.bind_some, xZ8j]
  cases he : s.en
  rotate_left
  · simp only [cond_true, if_true, W.ret]
    exact .inl (by rw [← he])
  simp only [cond_false, Bool.false_eq_true, if_false]
  have hl : ∀ N, xZJ N ⟨3, 1, lo, hi, [], [], []⟩ = some false := fun N => rfl
  obtain ⟨c1, c2, c3⟩ := xZcp (cs := cs) hs
  rw [← he]
  simp only [hl, Option.bind_some, cond_false, show ((3 : Int) == 2) = false from rfl, show ((3 : Int) == 3) = true from rfl, cond_true, xZdd hs, W.gd, xZe]
  generalize hc : cho cs s = q at c1 c2 c3 ⊢
  obtain ⟨c, s'⟩ := q
  simp only at c1 c2 c3 ⊢
  have loop : ∀ times : Int, times = timG lo hi c → W (fun i => lp6 (xZM i (xZa i) (pre.length : Int) times) i 0 body cs s'.tk s'.en s'.out) (R9 body cs (iterW (fun s => GT.wk cs a (pre.length + 1) s) times.toNat s')) := by
    intro times htm
    refine W.lp6 (N := fun N => N) (P := fun i y1 y2 tk en out => ∃ u : WS, u.ok ∧ y1 = body ∧ y2 = cs ∧ tk = u.tk ∧ en = u.en ∧ out = u.out ∧ 0 ≤ i ∧ i ≤ max 0 times ∧ iterW (fun s => GT.wk cs a (pre.length + 1) s) (times - i).toNat u = iterW (fun s => GT.wk cs a (pre.length + 1) s) times.toNat s') (m := fun i _ _ _ _ _ => (times - i).toNat)
      ⟨s', c1, rfl, rfl, rfl, rfl, rfl, Int.le_refl _, by omega, by rw [Int.sub_zero]⟩ ?_
    rintro F i y1 y2 tk en out ⟨u, hu, rfl, rfl, rfl, rfl, rfl, i0, i1, i2⟩ hn
    simp only [xZM]
    have htb : times ≤ 100 := by rw [htm]; unfold timG; split <;> omega
    by_cases hlt : i < times
    · simp only [show ltB i times = true from xZi.2 hlt, cond_true]
      obtain ⟨m, hm⟩ : ∃ m, (times - i).toNat = m + 1 := ⟨(times - i).toNat - 1, by omega⟩
      cases hue : u.en
      · simp only [Bool.not_false, cond_true, W.gd, xZe]
        refine ⟨by omega, ?_⟩
        have hcall := ih (pre ++ [⟨3, 1, lo, hi, [], [], []⟩]) post u hu (by rw [hb]; simp [GT.fl])
        have e1 : ((pre ++ [(⟨3, 1, lo, hi, [], [], []⟩ : xZ0)]).length : Int) = (pre.length : Int) + 1 := by simp
        have e2 : (pre ++ [(⟨3, 1, lo, hi, [], [], []⟩ : xZ0)]).length = pre.length + 1 := by simp
        rw [e1, e2, hue] at hcall
        refine W.bind (W.lift hcall) ?_
        have hu' : (a.wk y2 (pre.length + 1) u).ok := wk_ok a _ _ hu
        rw [hm, iterW, if_neg (by rw [hue]; simp)] at i2
        rintro r (rfl | rfl)
        all_goals
          simp only [Sum.elim_inl, Sum.elim_inr, W.gd, xZe]
          exact ⟨by omega, hn _ _ _ _ _ _ ⟨_, hu', rfl, rfl, rfl, rfl, rfl, by omega, by omega, by rw [show (times - (i + 1)).toNat = m by omega]; exact i2⟩ (by omega)⟩
      · simp only [Bool.not_true, cond_false, W.ret]
        rw [xZf1 hue] at i2
        rw [← i2]
        exact .inr (by rw [hue])
    · simp only [show ltB i times = false from xZ19.2 (by omega), cond_false, W.ret]
      rw [show (times - i).toNat = 0 by omega, iterW] at i2
      rw [← i2]
      exact .inr rfl
  refine ⟨by omega, ?_⟩
  by_cases hh : 0 < hi
  · simp only [show ltB 0 hi = true from xZi.2 hh, cond_true]
    have := loop (min (lo + c) hi) (by rw [timG, if_pos hh])
    rw [timG, if_pos hh]
    exact this
  · simp only [show ltB 0 hi = false from xZ19.2 (by omega), cond_false]
    have := loop (lo + c) (by rw [timG, if_neg hh])
    rw [timG, if_neg hh]
    exact this
theorem xZow {alt : Bool} {bs : List GT} {w : Int} (h : (GT.lst alt bs).ok w) (ih : ∀ b ∈ bs, P9 body cs b) (hlen : body.length ≤ 1000) : P9 body cs (.lst alt bs) := by
  intro pre post s hs hb
  refine W.shift ?_
  show W (fun N => xZs N (xZa N) _ _ _ _ _ _) _
  have hb' : body = pre ++ [(⟨kA alt, (bs.length : Int), 0, 0, [], [], []⟩ : xZ0)] ++ (GT.fls bs ++ post) := by rw [hb]; simp [GT.fl]
  have hix := xZaZ (l := body) (pre := pre) (e := ⟨kA alt, (bs.length : Int), 0, 0, [], [], []⟩) (r := GT.fls bs ++ post) (by rw [hb]; simp [GT.fl])
  have hpl : pre.length + (GT.fls bs).length + 1 ≤ 1000 := by rw [hb'] at hlen; simp at hlen; omega
  obtain ⟨_, k1, k2, k3⟩ := h
  have hoA := oks_A k3
  -- a kid, and what lies ahead of it and behind
  have split : ∀ {bs1 bs2 : List GT} {b : GT}, bs = bs1 ++ b :: bs2 → body = (pre ++ [(⟨kA alt, (bs.length : Int), 0, 0, [], [], []⟩ : xZ0)] ++ GT.fls bs1) ++ (b.fl ++ (GT.fls bs2 ++ post)) ∧ (pre ++ [(⟨kA alt, (bs.length : Int), 0, 0, [], [], []⟩ : xZ0)] ++ GT.fls bs1).length = pre.length + 1 + (GT.fls bs1).length := fun {bs1 bs2 b} hs => by
    refine ⟨?_, by simp; omega⟩
    have : GT.fls bs = GT.fls bs1 ++ (b.fl ++ GT.fls bs2) := by rw [hs, xZ6u, GT.fls]
    rw [hb', this]
    simp only [List.append_assoc]
  rw [GT.wk]
  simp only [xZs, hix, Option.bind_some, xZ8j]
  cases he : s.en
  rotate_left
  · simp only [cond_true, if_true, W.ret]
    exact .inl (by rw [← he])
  simp only [cond_false, Bool.false_eq_true, if_false]
  have hl : ∀ N, xZJ N ⟨kA alt, (bs.length : Int), 0, 0, [], [], []⟩ = some false := fun N => by cases alt <;> rfl
  rw [← he]
  simp only [hl, Option.bind_some, cond_false]
  cases alt
  · -- one behind the other
    simp only [show ((kA false) == 2) = false from rfl, show ((kA false) == 3) = false from rfl, cond_false, W.gd, xZe, Bool.false_eq_true, if_false]
    refine ⟨by omega, ?_⟩
    refine W.lp7 (N := fun N => N) (P := fun v i y1 y2 tk en out => ∃ (u : WS) (bs1 bs2 : List GT), u.ok ∧ bs = bs1 ++ bs2 ∧ v = ((pre.length + 1 + (GT.fls bs1).length : Nat) : Int) ∧ i = (bs1.length : Int) ∧ y1 = body ∧ y2 = cs ∧ tk = u.tk ∧ en = u.en ∧ out = u.out ∧ GT.wks cs bs2 (pre.length + 1 + (GT.fls bs1).length) u = GT.wks cs bs (pre.length + 1) s) (m := fun _ i _ _ _ _ _ => bs.length - i.toNat)
      ⟨s, [], bs, hs, rfl, by simp [GT.fls], rfl, rfl, rfl, rfl, rfl, rfl, by simp [GT.fls]⟩ ?_
    rintro F v i y1 y2 tk en out ⟨u, bs1, bs2, hu, hbs, rfl, rfl, rfl, rfl, rfl, rfl, rfl, hw⟩ hn
    simp only [xZ2j]
    cases bs2 with
    | nil =>
      rw [List.append_nil] at hbs
      simp only [show ltB (bs1.length : Int) (bs.length : Int) = false from xZ19.2 (by rw [hbs]; omega), cond_false, W.ret]
      rw [GT.wks] at hw
      rw [← hw]
      exact .inr rfl
    | cons b bs2 =>
      have hbl : bs.length = bs1.length + (bs2.length + 1) := by rw [hbs]; simp
      simp only [show ltB (bs1.length : Int) (bs.length : Int) = true from xZi.2 (by omega), cond_true]
      cases hue : u.en
      · simp only [Bool.not_false, cond_true]
        obtain ⟨s1, s2⟩ := split hbs
        have hcall := ih b (by rw [hbs]; simp) _ _ u hu s1
        rw [s2, hue] at hcall
        refine W.bind (W.lift hcall) ?_
        rw [GT.wks, if_neg (by rw [hue]; simp)] at hw
        obtain ⟨wb, hwb⟩ := hoA b (by rw [hbs]; simp)
        have hsz := xZik hwb s1 hlen
        rw [s2] at hsz
        have hu' : (b.wk y2 (pre.length + 1 + (GT.fls bs1).length) u).ok := wk_ok b _ _ hu
        have hfl : (GT.fls bs1).length + b.fl.length ≤ (GT.fls bs).length := by rw [hbs, xZ6u, GT.fls]; simp only [List.length_append]; omega
        rintro r (rfl | rfl)
        all_goals
          simp only [Sum.elim_inl, Sum.elim_inr]
          refine W.call hsz ?_
          rintro _ rfl
          simp only [W.gd, xZe]
          refine ⟨by omega, by omega, hn _ _ _ _ _ _ _ ⟨_, bs1 ++ [b], bs2, hu', by rw [hbs]; simp, by rw [xZ6u]; simp only [GT.fls, List.length_append, List.append_nil]; omega, by simp, rfl, rfl, rfl, rfl, rfl, ?_⟩ (by omega)⟩
          rw [← hw, xZ6u]
          simp only [GT.fls, List.length_append, List.append_nil, Nat.add_assoc]
      · simp only [Bool.not_true, cond_false, W.ret]
        rw [xZiR hue] at hw
        rw [← hw]
        exact .inr (by rw [hue])
  · -- one of them
    obtain ⟨c1, c2, c3⟩ := xZcp (cs := cs) hs
    simp only [show ((kA true) == 2) = true from rfl, cond_true, W.gd, xZe, if_true, xZdd hs, Option.bind_some]
    generalize hc : cho cs s = q at c1 c2 c3 ⊢
    obtain ⟨c, s'⟩ := q
    simp only at c1 c2 c3 ⊢
    refine ⟨by omega, by rw [bne_iff_ne]; omega, ?_⟩
    have hmod : Int.tmod c (bs.length : Int) = ((c.toNat % bs.length : Nat) : Int) := by
      obtain ⟨n, rfl⟩ := Int.eq_ofNat_of_zero_le c2
      rfl
    have hkl : c.toNat % bs.length < bs.length := Nat.mod_lt _ (by omega)
    rw [hmod]
    generalize c.toNat % bs.length = k at hkl ⊢
    refine W.lp2 (N := fun N => N) (P := fun v i => ∃ (bs1 bs2 : List GT), bs = bs1 ++ bs2 ∧ v = ((pre.length + 1 + (GT.fls bs1).length : Nat) : Int) ∧ i = (bs1.length : Int) ∧ bs1.length ≤ k) (m := fun _ i => k - i.toNat)
      ⟨[], bs, rfl, by simp [GT.fls], rfl, by simp⟩ ?_
    rintro F v i ⟨bs1, bs2, hbs, rfl, rfl, hk⟩ hn
    cases bs2 with
    | nil => rw [List.append_nil] at hbs; rw [hbs] at hkl; omega
    | cons b bs2 =>
      obtain ⟨s1, s2⟩ := split hbs
      simp only [xZ2o]
      have hfl : (GT.fls bs1).length + b.fl.length ≤ (GT.fls bs).length := by rw [hbs, xZ6u, GT.fls]; simp only [List.length_append]; omega
      by_cases hlt : bs1.length < k
      · obtain ⟨wb, hwb⟩ := hoA b (by rw [hbs]; simp)
        have hsz := xZik hwb s1 hlen
        rw [s2] at hsz
        simp only [show ltB (bs1.length : Int) (k : Int) = true from xZi.2 (by omega), cond_true]
        refine W.call hsz ?_
        rintro _ rfl
        simp only [W.gd, xZe]
        exact ⟨by omega, by omega, hn _ _ ⟨bs1 ++ [b], bs2, by rw [hbs]; simp, by rw [xZ6u]; simp only [GT.fls, List.length_append, List.append_nil]; omega, by simp, by simp; omega⟩ (by omega)⟩
      · obtain rfl : k = bs1.length := by omega
        simp only [show ltB (bs1.length : Int) (bs1.length : Int) = false from xZcu _, cond_false]
        have hcall := ih b (by rw [hbs]; simp) _ _ s' c1 s1
        rw [s2] at hcall
        refine W.bind (W.lift hcall) ?_
        have hwk := xZh2 (cs := cs) (b := b) (bs2 := bs2) bs1 (pre.length + 1) s'
        rw [← hbs] at hwk
        rw [hwk]
        rintro r (rfl | rfl)
        · simp only [Sum.elim_inl, W.ret]; exact .inl rfl
        · simp only [Sum.elim_inr, W.ret]; exact .inr rfl
mutual
theorem p9 (hlen : body.length ≤ 1000) : ∀ (t : GT) (w : Int), t.ok w → P9 body cs t
  | .leaf neg v ty o, w, h => xZlm
  | .rep lo hi a, w, h => xZpg h (p9 hlen a 3 h.2) hlen
  | .lst alt bs, w, h => xZow h (p9s hlen bs (kA alt) h.2.2.2) hlen
theorem p9s (hlen : body.length ≤ 1000) : ∀ (bs : List GT) (w : Int), GT.oks bs w → ∀ b ∈ bs, P9 body cs b
  | [], w, _, b, hb => by cases hb
  | a :: r, w, h, b, hb => by
    rcases List.mem_cons.1 hb with e | hb
    · rw [e]; exact p9 hlen a w h.1
    · exact p9s hlen r w h.2 b hb
end
end
end
section
section
variable {body : List xZ0} {cs : List Int}
def R5 (body : List xZ0) (cs : List Int) (s : WS) (r : (List xZ0 × List Int × Int × Bool) ⊕ (List xZ0 × List Int × Int × Bool × List Int)) : Prop := (r = .inl (body, cs, s.tk, s.en) ∧ s.out = []) ∨ r = .inr (body, cs, s.tk, s.en, s.out)
def P5 (body : List xZ0) (cs : List Int) (t : GT) : Prop := ∀ (pre post : List xZ0) (s : WS), s.ok → s.out = [] → body = pre ++ (t.fl ++ post) → W (fun N => (xZ9 N) (pre.length : Int) body cs s.tk s.en) (R5 body cs (t.wk cs pre.length s))
theorem p9s9 (hlen : body.length ≤ 1000) {t : GT} {w : Int} (h : t.ok w) {pre post : List xZ0} {s : WS} (hs : s.ok) (hb : body = pre ++ (t.fl ++ post)) : W (fun N => xZ1O N (pre.length : Int) body cs s.tk s.en s.out) (R9 body cs (t.wk cs pre.length s)) := p9 hlen t w h pre post s hs hb
theorem xZmg {neg : Bool} {v ty : List UInt8} {o : Option TT} : P5 body cs (.leaf neg v ty o) := by
  intro pre post s hs ho hb
  refine W.shift ?_
  show W (fun N => xZr N (xZ9 N) _ _ _ _ _) _
  have hix := xZaZ (l := body) (pre := pre) (e := ⟨kL neg, 0, 0, 0, v, ty, oT o⟩) (r := post) hb
  rw [GT.wk]
  simp only [xZr, hix, Option.bind_some]
  cases he : s.en
  · simp only [cond_false, Bool.false_eq_true, if_false]
    have hl : ∀ N, xZJ N ⟨kL neg, 0, 0, 0, v, ty, oT o⟩ = some true := fun N => by cases neg <;> rfl
    simp only [hl, Option.bind_some, cond_true, W.ret, ho]
    exact .inr rfl
  · simp only [cond_true, if_true, W.ret]
    exact .inl ⟨by rw [he], ho⟩
theorem xZo9 {lo hi : Int} {a : GT} {w : Int} (h : (GT.rep lo hi a).ok w) (hlen : body.length ≤ 1000) : P5 body cs (.rep lo hi a) := by
  intro pre post s hs ho hb
  refine W.shift ?_
  show W (fun N => xZr N (xZ9 N) _ _ _ _ _) _
  have hix := xZaZ (l := body) (pre := pre) (e := ⟨3, 1, lo, hi, [], [], []⟩) (r := a.fl ++ post) (by rw [hb]; simp [GT.fl])
  have hpl : pre.length ≤ 1000 := by rw [hb] at hlen; simp at hlen; omega
  obtain ⟨⟨l1, l2, l3, l4, _, _⟩, hao⟩ := h
  rw [GT.wk]
  simp only [xZr, hix, Option.bind_some, xZ8j]
  cases he : s.en
  rotate_left
  · simp only [cond_true, if_true, W.ret]
    exact .inl ⟨by rw [he], ho⟩
  simp only [cond_false, Bool.false_eq_true, if_false]
  have hl : ∀ N, xZJ N ⟨3, 1, lo, hi, [], [], []⟩ = some false := fun N => rfl
  obtain ⟨c1, c2, c3⟩ := xZcp (cs := cs) hs
  have hco := xZaH cs s
  rw [← he]
  simp only [hl, Option.bind_some, cond_false, show ((3 : Int) == 2) = false from rfl, show ((3 : Int) == 3) = true from rfl, cond_true, xZfV hs, W.gd, xZe]
  generalize hc : cho cs s = q at c1 c2 c3 hco ⊢
  obtain ⟨c, s'⟩ := q
  simp only at c1 c2 c3 hco ⊢
  rw [ho] at hco
  have loop : ∀ times : Int, times = timG lo hi c → W (fun i => lp6 (xZO i (xZ9 i) (pre.length : Int) times) i 0 body cs s'.tk s'.en []) (R5 body cs (iterW (fun s => GT.wk cs a (pre.length + 1) s) times.toNat s')) := by
    intro times htm
    refine W.lp6 (N := fun N => N) (P := fun i y1 y2 tk en out => ∃ u : WS, u.ok ∧ y1 = body ∧ y2 = cs ∧ tk = u.tk ∧ en = u.en ∧ out = u.out ∧ 0 ≤ i ∧ i ≤ max 0 times ∧ iterW (fun s => GT.wk cs a (pre.length + 1) s) (times - i).toNat u = iterW (fun s => GT.wk cs a (pre.length + 1) s) times.toNat s') (m := fun i _ _ _ _ _ => (times - i).toNat)
      ⟨s', c1, rfl, rfl, rfl, rfl, hco.symm, Int.le_refl _, by omega, by rw [Int.sub_zero]⟩ ?_
    rintro F i y1 y2 tk en out ⟨u, hu, rfl, rfl, rfl, rfl, rfl, i0, i1, i2⟩ hn
    simp only [xZO]
    have htb : times ≤ 100 := by rw [htm]; unfold timG; split <;> omega
    by_cases hlt : i < times
    · simp only [show ltB i times = true from xZi.2 hlt, cond_true]
      obtain ⟨m, hm⟩ : ∃ m, (times - i).toNat = m + 1 := ⟨(times - i).toNat - 1, by omega⟩
      cases hue : u.en
      · simp only [Bool.not_false, cond_true, W.gd, xZe]
        refine ⟨by omega, ?_⟩
        have hcall := p9s9 (cs := y2) hlen hao (pre := pre ++ [⟨3, 1, lo, hi, [], [], []⟩]) (post := post) hu (by rw [hb]; simp [GT.fl])
        have e1 : ((pre ++ [(⟨3, 1, lo, hi, [], [], []⟩ : xZ0)]).length : Int) = (pre.length : Int) + 1 := by simp
        have e2 : (pre ++ [(⟨3, 1, lo, hi, [], [], []⟩ : xZ0)]).length = pre.length + 1 := by simp
        rw [e1, e2, hue] at hcall
        refine W.call hcall ?_
        have hu' : (a.wk y2 (pre.length + 1) u).ok := wk_ok a _ _ hu
        rw [hm, iterW, if_neg (by rw [hue]; simp)] at i2
        rintro r (rfl | rfl)
        all_goals
          simp only [Sum.elim_inl, Sum.elim_inr, W.gd, xZe]
          exact ⟨by omega, hn _ _ _ _ _ _ ⟨_, hu', rfl, rfl, rfl, rfl, rfl, by omega, by omega, by rw [show (times - (i + 1)).toNat = m by omega]; exact i2⟩ (by omega)⟩
      · simp only [Bool.not_true, cond_false, W.ret]
        rw [xZf1 hue] at i2
        rw [← i2]
        exact .inr (by rw [hue])
    · simp only [show ltB i times = false from xZ19.2 (by omega), cond_false, W.ret]
      rw [show (times - i).toNat = 0 by omega, iterW] at i2
      rw [← i2]
      exact .inr rfl
  refine ⟨by omega, ?_⟩
  by_cases hh : 0 < hi
  · simp only [show ltB 0 hi = true from xZi.2 hh, cond_true]
    have := loop (min (lo + c) hi) (by rw [timG, if_pos hh])
    rw [timG, if_pos hh]
    exact this
  · simp only [show ltB 0 hi = false from xZ19.2 (by omega), cond_false]
    have := loop (lo + c) (by rw [timG, if_neg hh])
    rw [timG, if_neg hh]
    exact this
theorem xZhJ {pre post : List xZ0} {e : xZ0} {bs bs1 bs2 : List GT} {b : GT} (hb : body = pre ++ [e] ++ (GT.fls bs ++ post)) (hs : bs = bs1 ++ b :: bs2) : body = (pre ++ [e] ++ GT.fls bs1) ++ (b.fl ++ (GT.fls bs2 ++ post)) ∧ (pre ++ [e] ++ GT.fls bs1).length = pre.length + 1 + (GT.fls bs1).length ∧ (GT.fls bs1).length + b.fl.length ≤ (GT.fls bs).length := by
  have : GT.fls bs = GT.fls bs1 ++ (b.fl ++ GT.fls bs2) := by rw [hs, xZ6u, GT.fls]
  refine ⟨?_, by simp; omega, by rw [this]; simp only [List.length_append]; omega⟩
  rw [hb, this]
  simp only [List.append_assoc]
theorem xZoD {alt : Bool} {bs : List GT} {w : Int} (h : (GT.lst alt bs).ok w) (ih : ∀ b ∈ bs, P5 body cs b) (hlen : body.length ≤ 1000) : P5 body cs (.lst alt bs) := by
  intro pre post s hs ho hb
  refine W.shift ?_
  show W (fun N => xZr N (xZ9 N) _ _ _ _ _) _
  have hb' : body = pre ++ [(⟨kA alt, (bs.length : Int), 0, 0, [], [], []⟩ : xZ0)] ++ (GT.fls bs ++ post) := by rw [hb]; simp [GT.fl]
  have hix := xZaZ (l := body) (pre := pre) (e := ⟨kA alt, (bs.length : Int), 0, 0, [], [], []⟩) (r := GT.fls bs ++ post) (by rw [hb]; simp [GT.fl])
  have hpl : pre.length + (GT.fls bs).length + 1 ≤ 1000 := by rw [hb'] at hlen; simp at hlen; omega
  obtain ⟨_, k1, k2, k3⟩ := h
  have hoA := oks_A k3
  rw [GT.wk]
  simp only [xZr, hix, Option.bind_some, xZ8j]
  cases he : s.en
  rotate_left
  · simp only [cond_true, if_true, W.ret]
    exact .inl ⟨by rw [he], ho⟩
  simp only [cond_false, Bool.false_eq_true, if_false]
  have hl : ∀ N, xZJ N ⟨kA alt, (bs.length : Int), 0, 0, [], [], []⟩ = some false := fun N => by cases alt <;> rfl
  rw [← he]
  simp only [hl, Option.bind_some, cond_false]
  cases alt
  · simp only [show ((kA false) == 2) = false from rfl, show ((kA false) == 3) = false from rfl, cond_false, W.gd, xZe, Bool.false_eq_true, if_false]
    refine ⟨by omega, ?_⟩
    refine W.lp7 (N := fun N => N) (P := fun v i y1 y2 tk en out => ∃ (u : WS) (bs1 bs2 : List GT), u.ok ∧ bs = bs1 ++ bs2 ∧ v = ((pre.length + 1 + (GT.fls bs1).length : Nat) : Int) ∧ i = (bs1.length : Int) ∧ y1 = body ∧ y2 = cs ∧ tk = u.tk ∧ en = u.en ∧ out = u.out ∧ GT.wks cs bs2 (pre.length + 1 + (GT.fls bs1).length) u = GT.wks cs bs (pre.length + 1) s) (m := fun _ i _ _ _ _ _ => bs.length - i.toNat)
      ⟨s, [], bs, hs, rfl, by simp [GT.fls], rfl, rfl, rfl, rfl, rfl, ho.symm, by simp [GT.fls]⟩ ?_
    rintro F v i y1 y2 tk en out ⟨u, bs1, bs2, hu, hbs, rfl, rfl, rfl, rfl, rfl, rfl, rfl, hw⟩ hn
    simp only [xZ2l]
    cases bs2 with
    | nil =>
      rw [List.append_nil] at hbs
      simp only [show ltB (bs1.length : Int) (bs.length : Int) = false from xZ19.2 (by rw [hbs]; omega), cond_false, W.ret]
      rw [GT.wks] at hw
      rw [← hw]
      exact .inr rfl
    | cons b bs2 =>
      have hbl : bs.length = bs1.length + (bs2.length + 1) := by rw [hbs]; simp
      simp only [show ltB (bs1.length : Int) (bs.length : Int) = true from xZi.2 (by omega), cond_true]
      cases hue : u.en
      · simp only [Bool.not_false, cond_true]
        obtain ⟨s1, s2, hfl⟩ := xZhJ hb' hbs
        obtain ⟨wb, hwb⟩ := hoA b (by rw [hbs]; simp)
        have hcall := p9s9 (cs := y2) hlen hwb hu s1
        rw [s2, hue] at hcall
        refine W.call hcall ?_
        rw [GT.wks, if_neg (by rw [hue]; simp)] at hw
        have hsz := xZik hwb s1 hlen
        rw [s2] at hsz
        have hu' : (b.wk y2 (pre.length + 1 + (GT.fls bs1).length) u).ok := wk_ok b _ _ hu
        rintro r (rfl | rfl)
        all_goals
          simp only [Sum.elim_inl, Sum.elim_inr]
          refine W.call hsz ?_
          rintro _ rfl
          simp only [W.gd, xZe]
          refine ⟨by omega, by omega, hn _ _ _ _ _ _ _ ⟨_, bs1 ++ [b], bs2, hu', by rw [hbs]; simp, by rw [xZ6u]; simp only [GT.fls, List.length_append, List.append_nil]; omega, by simp, rfl, rfl, rfl, rfl, rfl, ?_⟩ (by omega)⟩
          rw [← hw, xZ6u]
          simp only [GT.fls, List.length_append, List.append_nil, Nat.add_assoc]
      · simp only [Bool.not_true, cond_false, W.ret]
        rw [xZiR hue] at hw
        rw [← hw]
        exact .inr (by rw [hue])
  · obtain ⟨c1, c2, c3⟩ := xZcp (cs := cs) hs
    have hco := xZaH cs s
    simp only [show ((kA true) == 2) = true from rfl, cond_true, W.gd, xZe, if_true, xZfV hs, Option.bind_some]
    generalize hc : cho cs s = q at c1 c2 c3 hco ⊢
    obtain ⟨c, s'⟩ := q
    simp only at c1 c2 c3 hco ⊢
    rw [ho] at hco
    refine ⟨by omega, by rw [bne_iff_ne]; omega, ?_⟩
    have hmod : Int.tmod c (bs.length : Int) = ((c.toNat % bs.length : Nat) : Int) := by
      obtain ⟨n, rfl⟩ := Int.eq_ofNat_of_zero_le c2
      rfl
    have hkl : c.toNat % bs.length < bs.length := Nat.mod_lt _ (by omega)
    rw [hmod]
    generalize c.toNat % bs.length = k at hkl ⊢
    refine W.lp2 (N := fun N => N) (P := fun v i => ∃ (bs1 bs2 : List GT), bs = bs1 ++ bs2 ∧ v = ((pre.length + 1 + (GT.fls bs1).length : Nat) : Int) ∧ i = (bs1.length : Int) ∧ bs1.length ≤ k) (m := fun _ i => k - i.toNat)
      ⟨[], bs, rfl, by simp [GT.fls], rfl, by simp⟩ ?_
    rintro F v i ⟨bs1, bs2, hbs, rfl, rfl, hk⟩ hn
    cases bs2 with
    | nil => rw [List.append_nil] at hbs; rw [hbs] at hkl; omega
    | cons b bs2 =>
      obtain ⟨s1, s2, hfl⟩ := xZhJ hb' hbs
      simp only [xZ2c]
      by_cases hlt : bs1.length < k
      · obtain ⟨wb, hwb⟩ := hoA b (by rw [hbs]; simp)
        have hsz := xZik hwb s1 hlen
        rw [s2] at hsz
        simp only [show ltB (bs1.length : Int) (k : Int) = true from xZi.2 (by omega), cond_true]
        refine W.call hsz ?_
        rintro _ rfl
        simp only [W.gd, xZe]
        exact ⟨by omega, by omega, hn _ _ ⟨bs1 ++ [b], bs2, by rw [hbs]; simp, by rw [xZ6u]; simp only [GT.fls, List.length_append, List.append_nil]; omega, by simp, by simp; omega⟩ (by omega)⟩
      · obtain rfl : k = bs1.length := by omega
        simp only [show ltB (bs1.length : Int) (bs1.length : Int) = false from xZcu _, cond_false]
        have hcall := ih b (by rw [hbs]; simp) _ _ s' c1 hco s1
        rw [s2] at hcall
        refine W.bind (W.lift hcall) ?_
        have hwk := xZh2 (cs := cs) (b := b) (bs2 := bs2) bs1 (pre.length + 1) s'
        rw [← hbs] at hwk
        rw [hwk]
        rintro r (⟨rfl, hz⟩ | rfl)
        · simp only [Sum.elim_inl, W.ret]; exact .inl ⟨rfl, hz⟩
        · simp only [Sum.elim_inr, W.ret]; exact .inr rfl
mutual
theorem p5 (hlen : body.length ≤ 1000) : ∀ (t : GT) (w : Int), t.ok w → P5 body cs t
  | .leaf neg v ty o, w, h => xZmg
  | .rep lo hi a, w, h => xZo9 h hlen
  | .lst alt bs, w, h => xZoD h (p5s hlen bs (kA alt) h.2.2.2) hlen
theorem p5s (hlen : body.length ≤ 1000) : ∀ (bs : List GT) (w : Int), GT.oks bs w → ∀ b ∈ bs, P5 body cs b
  | [], w, _, b, hb => by cases hb
  | a :: r, w, h, b, hb => by
    rcases List.mem_cons.1 hb with e | hb
    · rw [e]; exact p5 hlen a w h.1
    · exact p5s hlen r w h.2 b hb
end
end
end
section
open Go Classical
theorem xZdS {ι : Type} [Lim ι] (N : ι → Nat) : W (fun i => (xZ2a (N i)).bind fun a => some a) (· = true) := by
  simp only [xZ2a, Option.bind_some, W.ret]
def s00 : WS := ⟨0, [], false⟩
theorem xZj6 : s00.ok := ⟨by decide, by decide, by simp [s00], fun _ => by simp [s00]⟩
end
end
section
end
section
def small (l : List xZ2) : Prop := l.length ≤ 12 ∧ ∀ t ∈ l, t.Name.length ≤ 40 ∧ t.Fields.length ≤ 12 ∧ ∀ f ∈ t.Fields, f.Name.length ≤ 40
theorem xZfy (l : List xZ2) : W (fun N => xZ7W N l) fun r => ¬ 0 < r → small l := by
  simp only [xZ7W, W.cond, W.ret, xZi, xZ19]
  refine ⟨by omega, fun hl => ?_⟩
  refine wf1 (l := l) (fun pre => ∀ t ∈ pre, t.Name.length ≤ 40 ∧ t.Fields.length ≤ 12 ∧ ∀ f ∈ t.Fields, f.Name.length ≤ 40) [] rfl rfl (by omega) (by simp) ?_ ?_
  · intro F pre t rest hl h1 h2 h3 hp hn
    simp only [xZ5j, h1, h2, W.some, W.cond, W.ret, xZi, xZ19]
    refine ⟨fun _ => ⟨by omega, fun hn1 => ⟨by omega, fun hn2 => ?_⟩⟩, by simp⟩
    refine wf1 (l := t.Fields) (fun pre => ∀ f ∈ pre, f.Name.length ≤ 40) [] rfl rfl (by omega) (by simp) ?_ ?_
    · intro F' pre' f rest' hl' k1 k2 k3 hp' hn'
      simp only [xZ5n, h1, h2, k1, k2, k3, W.some, W.cond, W.ret, xZ2r, xZi, xZ19]
      refine ⟨fun _ => ⟨by omega, fun hf => hn' ?_⟩, by simp⟩
      simp only [List.mem_append, List.mem_singleton]
      rintro f (h | rfl)
      · exact hp' f h
      · omega
    · intro F' k1 hp'
      simp only [xZ5n, h1, h2, h3, k1, W.some, W.cond, W.ret, xZ2r]
      refine ⟨by simp, fun _ => (hn ?_).lift⟩
      simp only [List.mem_append, List.mem_singleton]
      rintro t (h | rfl)
      · exact hp t h
      · exact ⟨by omega, by omega, hp'⟩
  · intro F h1 hp
    simp only [xZ5j, h1, W.some, W.cond, W.ret]
    exact ⟨by simp, fun _ _ => ⟨by omega, hp⟩⟩
theorem xZgt (l : List xZ2) (h : small l) : W (fun N => xZa4 N l) fun r => r = l := by
  have h12 := h.1
  refine wf2a (l := l) (fun pre ys => ys = pre) [] rfl rfl (by omega) rfl ?_ ?_
  · rintro F pre t rest ys hl h1 h2 h3 rfl hn
    have ht := (h.2 t (by rw [hl]; simp)).2.1
    have hp : ys.length ≤ 12 := by rw [hl, List.length_append] at h12; omega
    simp only [xZ6o, h1, h2, W.some, cond_true]
    refine wf3a (l := t.Fields) (fun pre' a b => a = ys ∧ b = pre') [] rfl rfl (by omega) ⟨rfl, rfl⟩ ?_ ?_
    · rintro F' pre' f rest' a b hl' k1 k2 k3 ⟨rfl, rfl⟩ hn'
      have : b.length ≤ 12 := by rw [hl', List.length_append] at ht; omega
      simp only [xZ6k, h1, h2, k1, k2, k3, W.some, cond_true, W.gd, Nat.ble_eq, true_and]
      exact ⟨by omega, hn' _ _ ⟨rfl, rfl⟩⟩
    · rintro F' a b k1 ⟨rfl, rfl⟩
      simp only [xZ6k, h1, h2, h3, k1, W.some, cond_false, W.gd, Nat.ble_eq, true_and]
      exact ⟨by omega, (hn _ rfl).lift⟩
  · rintro F ys h1 rfl
    simp only [xZ6o, h1, cond_false, W.ret]
end
section
def resl : List (List UInt8) := [[119, 105, 116, 104, 105, 110], [98, 121], [97, 110, 100], [111, 114], [110, 111, 116], [97, 110, 121], [110, 101, 120, 116], [115, 116, 114, 105, 99, 116], [116, 114, 117, 101], [102, 97, 108, 115, 101]]
def resv (s : List UInt8) : Bool := resl.any (s == ·)
theorem xZbd (s : List UInt8) : W (fun N => xZ27 N s) (· = resv s) := by
  refine wall fun N => ?_
  have e2 : ∀ (b r : Bool), (bif b then some true else some r) = some (b || r) := by intro b r; cases b <;> rfl
  unfold xZ27
  have e3 : ∀ (b r r' : Bool), (bif b then some (b || r') else some r) = some (b || r) := by intro b r r'; cases b <;> rfl
  have e4 : ∀ (b r : Bool), (bif b then some b else some r) = some (b || r) := by intro b r; cases b <;> rfl
  simp only [resv, resl, List.any_cons, List.any_nil, e2, e3, e4, Bool.or_false]
def ltr (c : UInt8) : Bool := leB 97 (c.toNat : Int) && leB (c.toNat : Int) 122
def tl (c : UInt8) : Bool := ltr c || (leB 48 (c.toNat : Int) && leB (c.toNat : Int) 57) || ((c.toNat : Int) == 95)
def q_nm : List UInt8 → Bool
  | [] => false
  | c :: t => !(ltB 12 ((c :: t).length : Int)) && (ltr c && (!resv (c :: t) && t.all tl))
theorem xZ8a (c : UInt8) (N : Nat) : xZ2i N (c.toNat : Int) = some (ltr c) := by
  simp only [xZ2i, ltr]; cases leB 97 (c.toNat : Int) <;> rfl
theorem xZco (c : UInt8) (N : Nat) : xZ40 N (c.toNat : Int) = some (tl c) := by
  simp only [xZ40, xZ8a, Option.bind_some, tl]
  cases ltr c <;> cases leB 48 (c.toNat : Int) <;> cases leB (c.toNat : Int) 57 <;> rfl
theorem xZ8V (s : List UInt8) : W (fun N => xZS N s) (· = q_nm s) := by
  cases s with
  | nil => exact wall fun _ => rfl
  | cons c t =>
    simp only [xZS, show ((c :: t) == ([] : List UInt8)) = false from rfl, cond_false, W.cond, W.ret, show ix (c :: t) 0 = some c from rfl, Option.bind_some, xZ8a]
    refine ⟨fun h => by simp only [q_nm, h, Bool.not_true, Bool.false_and], fun h => ⟨fun h' => ?_, fun h' => ?_⟩⟩
    · have h' : ltr c = false := by simpa using h'
      simp only [q_nm, h', Bool.false_and, Bool.and_false]
    have h' : ltr c = true := by simpa using h'
    simp only [q_nm, h, h', Bool.not_false, Bool.true_and]
    refine W.call (xZbd _) ?_
    rintro _ rfl
    simp only [W.cond, W.ret]
    refine ⟨fun h2 => by simp only [h2, Bool.not_true, Bool.false_and], fun h2 => ?_⟩
    simp only [h2, Bool.not_false, Bool.true_and]
    have hb := xZ19.1 h
    refine wr1 (l := c :: t) (fun _ rest => rest.all tl) [c] t rfl rfl (by omega) ?_ ?_
    · intro F pre e rest hl h1 h2 h3 hn
      simp only [xZ2P, h1, h2, h3, Option.bind_some, cond_true, xZco, W.cond, W.ret, xZ2r, List.all_cons]
      refine ⟨fun h => ?_, fun h => ?_⟩
      · have h : tl e = false := by simpa using h
        simp only [h, Bool.false_and]
      · have h : tl e = true := by simpa using h
        simp only [h, Bool.true_and]; exact hn
    · intro F h1
      simp only [xZ2P, h1, cond_false, W.ret, List.all_nil]
end
section
def wordO (k : Int) : List UInt8 := (xZ5w 0 k).getD []
theorem xZft (k : Int) (N : Nat) : xZ5w N k = some (wordO k) := by
  unfold wordO xZ5w
  simp only [Bool.cond_eq_ite]
  repeat' split
  all_goals rfl
def fld (name : List UInt8) : Nat → List xZ7 → Int × Int
  | _, [] => (-1, 0)
  | i, f :: r => if f.Name == name then ((i : Int), f.Kind) else fld name (i + 1) r
theorem xZ4f (t : xZ2) (name : List UInt8) (hb : t.Fields.length ≤ 1000) : W (fun N => xZZ N t name) (· = fld name 0 t.Fields) := by
  refine wr1 (l := t.Fields) (fun pre rest => fld name pre.length rest) [] t.Fields rfl rfl (by omega) ?_ ?_
  · intro F pre e rest hl h1 h2 h3 hn
    rw [List.length_append, List.length_singleton] at hn
    simp only [xZ2v, h1, h2, h3, Option.bind_some, cond_true, W.cond, W.ret, xZ2r, fld]
    exact ⟨fun h => by simp only [h, if_true], fun h => by simp only [h, Bool.false_eq_true, if_false]; exact hn⟩
  · intro F h1
    simp only [xZ2v, h1, cond_false, W.ret, fld]
theorem xZnB (e : xZ7) (rest : List xZ7) : ∀ (pre : List xZ7) (j : Nat),
    ((fld e.Name j (pre ++ e :: rest)).1 != ((j + pre.length : Nat) : Int)) = pre.any (fun f => f.Name == e.Name) ∧ (j : Int) ≤ (fld e.Name j (pre ++ e :: rest)).1
  | [], j => by simp [fld]
  | f :: pre, j => by
    obtain ⟨h1, h2⟩ := xZnB e rest pre (j + 1)
    by_cases h : (f.Name == e.Name) = true
    · simp only [List.cons_append, fld, h, if_true, List.any_cons, Bool.true_or, Int.le_refl, and_true, bne_iff_ne, ne_eq, List.length_cons]
      omega
    · have h := eq_false_of_ne_true h
      simp only [List.cons_append, fld, h, List.any_cons, Bool.false_or, List.length_cons, Bool.false_eq_true, if_false]
      refine ⟨?_, by omega⟩
      rw [← h1]
      congr 2
      omega
def cf : List xZ7 → List xZ7 → Int
  | _, [] => 0
  | pre, f :: r => if q_nm f.Name then (if wordO f.Kind == [] then 11 else if pre.any (fun g => g.Name == f.Name) then 21 else cf (pre ++ [f]) r) else 4
def one (t : xZ2) : Int := if q_nm t.Name then (if ltB 6 (t.Fields.length : Int) then 5 else cf [] t.Fields) else 4
theorem xZdw (t : xZ2) : W (fun N => xZ2T N t) (· = one t) := by
  simp only [xZ2T, one]
  refine W.call (xZ8V _) ?_
  rintro _ rfl
  simp only [W.cond, W.ret]
  refine ⟨fun h => by have h : q_nm t.Name = false := by simpa using h
                      simp only [h, Bool.false_eq_true, if_false], fun h => ?_⟩
  have h : q_nm t.Name = true := by simpa using h
  simp only [h, if_true]
  refine ⟨fun h2 => by simp only [h2, if_true], fun h2 => ?_⟩
  have hb := xZ19.1 h2
  simp only [h2, Bool.false_eq_true, if_false]
  refine wr1 (l := t.Fields) cf [] t.Fields rfl rfl (by omega) ?_ ?_
  · intro F pre e rest hl h1 h2 h3 hn
    simp only [xZ2s, h1, h2, h3, Option.bind_some, cond_true, xZ2r, cf]
    refine W.call (xZ4f t e.Name (by omega)) ?_
    rintro _ rfl
    refine W.call (xZ8V _) ?_
    rintro _ rfl
    have h5 := (xZnB e rest pre 0).1
    rw [← hl, Nat.zero_add] at h5
    simp only [W.cond, W.ret, xZft, Option.bind_some, h5]
    refine ⟨fun h => by have h : q_nm e.Name = false := by simpa using h
                        simp only [h, Bool.false_eq_true, if_false], fun h => ?_⟩
    have h : q_nm e.Name = true := by simpa using h
    simp only [h, if_true]
    refine ⟨fun h => by simp only [h, if_true], fun h => ⟨fun h' => by simp only [h, h', Bool.false_eq_true, if_false, if_true], fun h' => ?_⟩⟩
    simp only [h, h', Bool.false_eq_true, if_false]; exact hn
  · intro F h1
    simp only [xZ2s, h1, cond_false, W.ret, cf]
def fnd (name : List UInt8) : List xZ2 → xZ2 × Bool
  | [] => (xZ2.mk [] [], false)
  | t :: r => if t.Name == name then (t, true) else fnd name r
theorem xZjV (name : List UInt8) : ∀ l, (fnd name l).2 = l.any fun t => t.Name == name
  | [] => rfl
  | t :: r => by
    by_cases h : (t.Name == name) = true
    · simp [fnd, h]
    · have h := eq_false_of_ne_true h
      simp [fnd, h, xZjV name r]
theorem xZiK (name : List UInt8) {l : List xZ2} (h : small l) : small [(fnd name l).1] := by
  refine ⟨by simp, fun t ht => ?_⟩
  obtain rfl := List.mem_singleton.1 ht
  have : ∀ l : List xZ2, (∀ t ∈ l, t.Name.length ≤ 40 ∧ t.Fields.length ≤ 12 ∧ ∀ f ∈ t.Fields, f.Name.length ≤ 40) → (fnd name l).1.Name.length ≤ 40 ∧ (fnd name l).1.Fields.length ≤ 12 ∧ ∀ f ∈ (fnd name l).1.Fields, f.Name.length ≤ 40 := by
    intro l
    induction l with
    | nil => intro _; simp [fnd]
    | cons t r ih =>
      intro h
      simp only [fnd]
      split
      · exact h t (by simp)
      · exact ih fun t ht => h t (by simp [ht])
  exact this l h.2
theorem xZaQ (l : List xZ2) (name : List UInt8) (hb : small l) : W (fun N => xZ69 N l name) (· = fnd name l) := by
  have h12 := hb.1
  refine wr1 (l := l) (fun _ rest => fnd name rest) [] l rfl rfl (by omega) ?_ ?_
  · intro F pre e rest hl h1 h2 h3 hn
    have he := (hb.2 e (by rw [hl]; simp)).2.1
    simp only [xZ4V, h1, h2, h3, Option.bind_some, cond_true, W.cond, xZ2r, fnd]
    refine ⟨fun h => ?_, fun h => by simp only [h, Bool.false_eq_true, if_false]; exact hn⟩
    rw [W.clone (by omega)]
    obtain rfl := eq_of_beq h
    simp only [BEq.rfl, if_true]
    exact W.ret.2 rfl
  · intro F h1
    simp only [xZ4V, h1, cond_false, W.ret, fnd]
def ck : List xZ2 → List xZ2 → Int
  | _, [] => 0
  | pre, t :: r => if one t != 0 then one t else if pre.any (fun g => g.Name == t.Name) then 21 else ck (pre ++ [t]) r
def q_chk (l : List xZ2) : Int := if ltB 8 (l.length : Int) then 5 else ck [] l
theorem xZiT {l pre rest : List xZ2} (h : small l) (hl : l = pre ++ rest) : small pre := ⟨by have := h.1; rw [hl, List.length_append] at this; omega, fun t ht => h.2 t (by rw [hl]; simp [ht])⟩
theorem xZcR (l : List xZ2) (hs : small l) : W (fun N => xZ5q N l) (· = q_chk l) := by
  have h12 := hs.1
  simp only [xZ5q, q_chk, W.cond, W.ret]
  refine ⟨fun h => by simp only [h, if_true], fun h => ?_⟩
  simp only [h, Bool.false_eq_true, if_false]
  refine wr1 (l := l) ck [] l rfl rfl (by omega) ?_ ?_
  · intro F pre e rest hl h1 h2 h3 hn
    have h4 := xZi.1 h1
    simp only [xZ4b, h1, h2, h3, Option.bind_some, cond_true, xZ2r, ck]
    refine W.call (xZdw e) ?_
    rintro _ rfl
    simp only [W.cond, W.ret, W.gd, xZ16]
    refine ⟨fun h => by simp only [h, if_true], fun h => ⟨by omega, by omega, ?_⟩⟩
    have ht : List.take ((pre.length : Int)).toNat l = pre := by rw [hl]; simp
    rw [ht]
    simp only [h, Bool.false_eq_true, if_false]
    refine W.call (xZaQ _ e.Name (xZiT hs hl)) ?_
    rintro _ rfl
    simp only [W.cond, W.ret, xZjV]
    exact ⟨fun h => by simp only [h, if_true], fun h => by simp only [h, Bool.false_eq_true, if_false]; exact hn⟩
  · intro F h1
    simp only [xZ4b, h1, cond_false, W.ret, ck]
end
section
def gb (x : A40 Bool) (k : Nat) : Bool := x.l.getD k false
def gm (x : A40 (A40 Bool)) (j : Nat) : Nat → Bool := gb (x.l.getD j (A40.c false))
def upd {α : Type} (A : Nat → α) (i : Nat) (v : α) : Nat → α := fun k => if k = i then v else A k
def cset {α : Type} (n : Int) (v : α) : Nat → List α → List α
  | _, [] => []
  | j, x :: l => cond (ieq n (Int.ofNat j)) v x :: cset n v (j + 1) l
theorem xZkO {α : Type} (x : A40 α) (n : Int) (v : α) : (A40.set x n v).l = cset n v 0 x.l := rfl
theorem ieq_t {a b : Int} : ieq a b = true ↔ a = b := by simp only [ieq, Bool.and_eq_true, xZ16]; omega
theorem xZk0 {α : Type} (n : Nat) (v : α) : ∀ (l : List α) (j : Nat), cset (n : Int) v j l = if j ≤ n then l.set (n - j) v else l
  | [], j => by simp [cset]
  | x :: l, j => by
    rw [cset, xZk0 n v l (j + 1)]
    by_cases h : n = j
    · subst h
      rw [show ieq (n : Int) (Int.ofNat n) = true from ieq_t.2 rfl, cond_true, if_neg (by omega), if_pos (by omega), Nat.sub_self, List.set_cons_zero]
    · have hc : ieq (n : Int) (Int.ofNat j) = false := by
        rw [Bool.eq_false_iff]; intro hc; rw [ieq_t] at hc
        have : (Int.ofNat j : Int) = (j : Int) := rfl
        omega
      rw [hc, cond_false]
      by_cases h2 : j ≤ n
      · rw [if_pos (show j + 1 ≤ n by omega), if_pos h2, show n - j = (n - (j + 1)) + 1 by omega, List.set_cons_succ]
      · rw [if_neg (by omega), if_neg h2]
theorem l_set {α : Type} (x : A40 α) (n : Nat) (v : α) : (A40.set x (n : Int) v).l = x.l.set n v := by rw [xZkO, xZk0, if_pos (Nat.zero_le _), Nat.sub_zero]
theorem l_len {α : Type} (x : A40 α) : x.l.length = 40 := rfl
theorem l_c {α : Type} (v : α) : (A40.c v).l = List.replicate 40 v := rfl
theorem ix_l {α : Type} (x : A40 α) {n : Nat} (h : n < 40) (d : α) : ix x.l (n : Int) = some (x.l.getD n d) := by
  rw [ix_nat', List.getD, List.getElem?_eq_getElem (by rw [l_len]; exact h)]; rfl
theorem gb_ge (x : A40 Bool) {k : Nat} (h : 40 ≤ k) : gb x k = false := by
  rw [gb, List.getD, List.getElem?_eq_none (by rw [l_len]; exact h)]; rfl
theorem xZg9 {α : Type} (l : List α) (n k : Nat) (v d : α) (hn : n < l.length) : (l.set n v).getD k d = if k = n then v else l.getD k d := by
  by_cases h : k = n
  · subst h; simp [List.getD, hn]
  · simp [List.getD, List.getElem?_set, h, Ne.symm h]
theorem xZii (x : A40 Bool) {n : Nat} (h : n < 40) (v : Bool) : gb (A40.set x (n : Int) v) = upd (gb x) n v := by
  funext k
  rw [gb, l_set, xZg9 _ _ _ _ _ (by rw [l_len]; exact h)]; rfl
theorem xZoQ (x : A40 (A40 Bool)) {n : Nat} (h : n < 40) (v : A40 Bool) : gm (A40.set x (n : Int) v) = upd (gm x) n (gb v) := by
  funext k
  rw [gm, l_set, xZg9 _ _ _ _ _ (by rw [l_len]; exact h), upd]
  split <;> rfl
theorem xZi0 {α : Type} (n k : Nat) (v : α) : (List.replicate n v).getD k v = v := by
  simp only [List.getD, List.getElem?_replicate]; split <;> rfl
theorem gb_c : gb (A40.c false) = fun _ => false := by funext k; rw [gb, l_c, xZi0]
theorem gm_c : gm (A40.c (A40.c false)) = fun _ _ => false := by funext j; rw [gm, l_c, xZi0, gb_c]
theorem xZom (a b : A40 Bool) : W (fun N => xZ31 N a b) (fun r => gb r = fun k => gb a k && gb b k) := by
  simp only [xZ31]
  refine W.lp2 (P := fun x y => ∃ n : Nat, x = (n : Int) ∧ n ≤ 40 ∧ gb y = fun k => if k < n then gb a k && gb b k else gb a k) (m := fun x _ => 40 - x.toNat) ⟨0, rfl, by omega, by funext k; simp⟩ ?_
  rintro F x y ⟨n, rfl, hn, hy⟩ next
  simp only [xZ4B]
  by_cases h : n < 40
  · have hyn : y.l.getD n false = gb a n := by
      have := congrFun hy n
      simp only [Nat.lt_irrefl, if_false] at this
      exact this
    simp only [show ltB (n : Int) 40 = true from xZi.2 (by omega), show leB 0 (n : Int) = true from xZ16.2 (by omega), cond_true, xZ2r, ix_l y h false, ix_l b h false, Option.bind_some, show i64b ((n : Int) + 1) = true from xZe.2 (by omega)]
    rw [hyn]
    have hstep : ∀ v, v = (gb a n && gb b n) → gb (A40.set y (n : Int) v) = fun k => if k < n + 1 then gb a k && gb b k else gb a k := by
      rintro v rfl
      rw [xZii y h, hy]
      funext k
      unfold upd
      by_cases hk : k = n
      · subst hk; simp
      · by_cases hk2 : k < n
        · simp [hk, hk2, show k < n + 1 by omega]
        · simp [hk, hk2, show ¬ k < n + 1 by omega]
    cases ha : gb a n
    · rw [ha] at hstep
      exact next _ _ ⟨n + 1, by omega, by omega, hstep false rfl⟩ (by omega)
    · rw [ha] at hstep
      exact next _ _ ⟨n + 1, by omega, by omega, hstep (gb b n) rfl⟩ (by omega)
  · have : n = 40 := by omega
    subst this
    simp only [show ltB ((40 : Nat) : Int) 40 = false from rfl, cond_false, W.ret]
    rw [hy]
    funext k
    split
    · rfl
    · rename_i hk; rw [gb_ge a (by omega)]; rfl
theorem xZdt (a b : A40 Bool) : W (fun N => xZ1Q N a b) (fun r => gb r = fun k => gb a k || gb b k) := by
  simp only [xZ1Q]
  refine W.lp2 (P := fun x y => ∃ n : Nat, x = (n : Int) ∧ n ≤ 40 ∧ gb y = fun k => if k < n then gb a k || gb b k else gb a k) (m := fun x _ => 40 - x.toNat) ⟨0, rfl, by omega, by funext k; simp⟩ ?_
  rintro F x y ⟨n, rfl, hn, hy⟩ next
  simp only [xZ3Q]
  by_cases h : n < 40
  · have hyn : y.l.getD n false = gb a n := by
      have := congrFun hy n
      simp only [Nat.lt_irrefl, if_false] at this
      exact this
    simp only [show ltB (n : Int) 40 = true from xZi.2 (by omega), show leB 0 (n : Int) = true from xZ16.2 (by omega), cond_true, xZ2r, ix_l y h false, ix_l b h false, Option.bind_some, show i64b ((n : Int) + 1) = true from xZe.2 (by omega)]
    rw [hyn]
    have hstep : ∀ v, v = (gb a n || gb b n) → gb (A40.set y (n : Int) v) = fun k => if k < n + 1 then gb a k || gb b k else gb a k := by
      rintro v rfl
      rw [xZii y h, hy]
      funext k
      unfold upd
      by_cases hk : k = n
      · subst hk; simp
      · by_cases hk2 : k < n
        · simp [hk, hk2, show k < n + 1 by omega]
        · simp [hk, hk2, show ¬ k < n + 1 by omega]
    cases ha : gb a n
    · rw [ha] at hstep
      exact next _ _ ⟨n + 1, by omega, by omega, hstep (gb b n) rfl⟩ (by omega)
    · rw [ha] at hstep
      exact next _ _ ⟨n + 1, by omega, by omega, hstep true rfl⟩ (by omega)
  · have : n = 40 := by omega
    subst this
    simp only [show ltB ((40 : Nat) : Int) 40 = false from rfl, cond_false, W.ret]
    rw [hy]
    funext k
    split
    · rfl
    · rename_i hk; rw [gb_ge a (by omega), gb_ge b (by omega)]; rfl
def isA (n : xZ0) (v : List UInt8) : Bool := n.Kind == 4 && n.Var == v
def idn (v : List UInt8) : List xZ0 → Nat
  | [] => 0
  | n :: l => if isA n v then 0 else idn v l + 1
theorem xZnK {v : List UInt8} {e : xZ0} {post : List xZ0} (he : isA e v = true) : ∀ pre : List xZ0, (∀ n ∈ pre, isA n v = false) → idn v (pre ++ e :: post) = pre.length
  | [], _ => by simp [idn, he]
  | a :: pre, h => by
    rw [List.cons_append, idn, if_neg (by rw [h a (by simp)]; simp), xZnK he pre fun n hn => h n (by simp [hn])]; rfl
theorem xZiZ {v : List UInt8} : ∀ l : List xZ0, (∃ n ∈ l, isA n v = true) → idn v l < l.length ∧ ∃ n, l[idn v l]? = some n ∧ isA n v = true
  | [], h => by obtain ⟨n, hn, _⟩ := h; cases hn
  | a :: l, h => by
    rw [idn]
    by_cases ha : isA a v = true
    · rw [if_pos ha]; exact ⟨by simp, a, rfl, ha⟩
    · rw [if_neg ha]
      obtain ⟨n, hn, hv⟩ := h
      rcases List.mem_cons.1 hn with rfl | hn
      · exact absurd hv ha
      · obtain ⟨h1, m, h2, h3⟩ := xZiZ l ⟨n, hn, hv⟩
        exact ⟨by simp; omega, m, by simpa using h2, h3⟩
theorem w_id (l : List xZ0) (v : List UInt8) (hl : l.length ≤ 1000) : W (fun N => xZ8g N l v) (fun r => (r = -1 ∧ ∀ n ∈ l, isA n v = false) ∨ (r = (idn v l : Int) ∧ ∃ n ∈ l, isA n v = true)) := by
  simp only [xZ8g]
  refine W.call (f := fun N => xZy N l v) (P := fun r => (r.1 = -1 ∧ ∀ n ∈ l, isA n v = false) ∨ (r.1 = (idn v l : Int) ∧ ∃ n ∈ l, isA n v = true)) ?_ fun r hr => W.ret.2 hr
  simp only [xZy]
  refine W.lp2 (P := fun x y => y = v ∧ ∃ pre rest, l = pre ++ rest ∧ x = (pre.length : Int) ∧ ∀ n ∈ pre, isA n v = false) (m := fun x _ => l.length - x.toNat) ⟨rfl, [], l, rfl, rfl, by simp⟩ ?_
  rintro F x y ⟨rfl, pre, rest, h1, rfl, h2⟩ next
  simp only [xZR]
  cases rest with
  | nil =>
    rw [List.append_nil] at h1
    subst h1
    simp only [show ltB (l.length : Int) (l.length : Int) = false from xZ19.2 (by omega), cond_false, W.ret]
    exact .inl ⟨trivial, h2⟩
  | cons e rest =>
    have hlt : pre.length < l.length := by rw [h1]; simp
    have hix : ix l (pre.length : Int) = some e := by rw [ix_nat', h1]; simp
    have he : ∀ N, xZ39 N e y = some (isA e y, y) := fun N => by
      simp only [xZ39, isA]; cases e.Kind == 4 <;> rfl
    simp only [show ltB (pre.length : Int) (l.length : Int) = true from xZi.2 (by omega), cond_true, hix, Option.bind_some, he]
    cases hA : isA e y
    · simp only [cond_false, W.gd, xZe]
      refine ⟨by omega, next _ _ ⟨rfl, pre ++ [e], rest, by rw [h1]; simp, by simp, ?_⟩ (by omega)⟩
      intro n hn
      rcases List.mem_append.1 hn with hn | hn
      · exact h2 n hn
      · rw [List.mem_singleton.1 hn]; exact hA
    · simp only [cond_true, W.ret]
      refine .inr ⟨?_, e, by rw [h1]; simp, hA⟩
      rw [h1, xZnK hA pre h2]
-- What is surely bound behind a tree; what is ahead of a leaf in it; which places are its leaves.
section
variable (body : List xZ0)
mutual
def GT.fA : GT → (Nat → Bool) → Nat → Bool
  | .leaf neg v _ _, A => if neg then A else upd A (idn v body) true
  | .rep lo _ a, A => if lo = 0 then A else GT.fA a A
  | .lst alt bs, A => if alt then GT.fAl bs A else GT.fAs bs A
def GT.fAs : List GT → (Nat → Bool) → Nat → Bool
  | [], A => A
  | b :: bs, A => GT.fAs bs (GT.fA b A)
def GT.fAl : List GT → (Nat → Bool) → Nat → Bool
  | [], _ => fun _ => true
  | b :: bs, A => fun k => GT.fA b A k && GT.fAl bs A k
end
mutual
def GT.rw : GT → Nat → (Nat → Bool) → Nat → Nat → Bool
  | .leaf .., _, A, _ => A
  | .rep _ _ a, i, A, j => GT.rw a (i + 1) A j
  | .lst alt bs, i, A, j => GT.rws alt bs (i + 1) A j
def GT.rws (alt : Bool) : List GT → Nat → (Nat → Bool) → Nat → Nat → Bool
  | [], _, A, _ => A
  | b :: bs, i, A, j => if j < i + b.fl.length then GT.rw b i A j else GT.rws alt bs (i + b.fl.length) (if alt then A else GT.fA body b A) j
end
mutual
def GT.lf : GT → Nat → Nat → Prop
  | .leaf .., i, j => j = i
  | .rep _ _ a, i, j => GT.lf a (i + 1) j
  | .lst _ bs, i, j => GT.lfs bs (i + 1) j
def GT.lfs : List GT → Nat → Nat → Prop
  | [], _, _ => False
  | b :: bs, i, j => GT.lf b i j ∨ GT.lfs bs (i + b.fl.length) j
end
end
theorem xZgJ (t : GT) : 0 < t.fl.length := by obtain ⟨e, r, h⟩ := xZkR t; rw [h]; simp
mutual
theorem xZbz : ∀ (t : GT) (i j : Nat), t.lf i j → i ≤ j ∧ j < i + t.fl.length
  | .leaf .., i, j, h => by rw [GT.lf] at h; subst h; exact ⟨Nat.le_refl _, Nat.lt_add_of_pos_right (xZgJ _)⟩
  | .rep _ _ a, i, j, h => by
    rw [GT.lf] at h
    have := xZbz a _ _ h
    simp only [GT.fl, List.length_cons]; omega
  | .lst _ bs, i, j, h => by
    rw [GT.lf] at h
    have := xZbu bs _ _ h
    simp only [GT.fl, List.length_cons]; omega
theorem xZbu : ∀ (bs : List GT) (i j : Nat), GT.lfs bs i j → i ≤ j ∧ j < i + (GT.fls bs).length
  | [], i, j, h => by rw [GT.lfs] at h; exact h.elim
  | b :: bs, i, j, h => by
    rw [GT.lfs] at h
    rw [GT.fls, List.length_append]
    rcases h with h | h
    · have := xZbz b _ _ h; omega
    · have := xZbu bs _ _ h; omega
end
theorem xZhu (r : List GT) : ∀ (bs : List GT) (i j : Nat), GT.lfs (bs ++ r) i j ↔ GT.lfs bs i j ∨ GT.lfs r (i + (GT.fls bs).length) j
  | [], i, j => by simp [GT.lfs, GT.fls]
  | b :: bs, i, j => by rw [List.cons_append, GT.lfs, GT.lfs, xZhu r bs, GT.fls, List.length_append, Nat.add_assoc, or_assoc]
section
variable {body : List xZ0}
theorem xZjt (b : GT) : ∀ (bs : List GT) (A : Nat → Bool), GT.fAs body (bs ++ [b]) A = GT.fA body b (GT.fAs body bs A)
  | [], A => by simp [GT.fAs]
  | a :: bs, A => by rw [List.cons_append, GT.fAs, GT.fAs, xZjt b bs]
theorem xZjj (b : GT) (A : Nat → Bool) : ∀ (bs : List GT), GT.fAl body (bs ++ [b]) A = fun k => GT.fA body b A k && GT.fAl body bs A k
  | [] => by simp [GT.fAl]
  | a :: bs => by
    rw [List.cons_append, GT.fAl, GT.fAl, xZjj b A bs]
    funext k
    simp only [Bool.and_left_comm]
theorem xZjK (alt : Bool) (r : List GT) : ∀ (bs : List GT) (i : Nat) (A : Nat → Bool) (j : Nat), i ≤ j → j < i + (GT.fls bs).length → GT.rws body alt (bs ++ r) i A j = GT.rws body alt bs i A j
  | [], i, A, j, h0, h => by simp only [GT.fls, List.length_nil, Nat.add_zero] at h; omega
  | b :: bs, i, A, j, h0, h => by
    rw [List.cons_append, GT.rws, GT.rws]
    split
    · rfl
    · rw [GT.fls, List.length_append] at h
      exact xZjK alt r bs _ _ j (by omega) (by omega)
theorem xZkq (alt : Bool) (b : GT) (r : List GT) : ∀ (bs : List GT) (i : Nat) (A : Nat → Bool) (j : Nat), i + (GT.fls bs).length ≤ j → j < i + (GT.fls bs).length + b.fl.length → GT.rws body alt (bs ++ b :: r) i A j = GT.rw body b (i + (GT.fls bs).length) (if alt then A else GT.fAs body bs A) j
  | [], i, A, j, h0, h => by
    simp only [GT.fls, List.length_nil, Nat.add_zero] at h h0 ⊢
    rw [List.nil_append, GT.rws, if_pos h]
    cases alt <;> simp [GT.fAs]
  | c :: bs, i, A, j, h0, h => by
    rw [GT.fls, List.length_append] at h0 h ⊢
    rw [List.cons_append, GT.rws, if_neg (by omega), xZkq alt b r bs _ _ j (by omega) (by omega), Nat.add_assoc]
    cases alt <;> simp [GT.fAs]
def FY (t : GT) (i : Nat) (A : Nat → Bool) (Y Y' : Nat → Nat → Bool) : Prop := (∀ j, ¬ (i ≤ j ∧ j < i + t.fl.length) → Y' j = Y j) ∧ ∀ j, t.lf i j → Y' j = t.rw body i A j
def FYs (alt : Bool) (bs : List GT) (i : Nat) (A : Nat → Bool) (Y Y' : Nat → Nat → Bool) : Prop := (∀ j, ¬ (i ≤ j ∧ j < i + (GT.fls bs).length) → Y' j = Y j) ∧ ∀ j, GT.lfs bs i j → Y' j = GT.rws body alt bs i A j
theorem xZgV {alt : Bool} {b : GT} {bs : List GT} {i : Nat} {A : Nat → Bool} {Y Y' Y2 : Nat → Nat → Bool} (h : FYs (body := body) alt bs i A Y Y') (h2 : FY (body := body) b (i + (GT.fls bs).length) (if alt then A else GT.fAs body bs A) Y' Y2) : FYs (body := body) alt (bs ++ [b]) i A Y Y2 := by
  obtain ⟨p1, p2⟩ := h
  obtain ⟨q1, q2⟩ := h2
  have hl : (GT.fls (bs ++ [b])).length = (GT.fls bs).length + b.fl.length := by rw [xZfZ]; simp [GT.fls]
  refine ⟨fun j hj => ?_, fun j hj => ?_⟩
  · rw [hl] at hj
    rw [q1 j (by omega), p1 j (by omega)]
  · rw [xZhu] at hj
    rcases hj with hj | hj
    · have := xZbu _ _ _ hj
      rw [q1 j (by omega), p2 j hj, xZjK alt [b] bs i A j this.1 this.2]
    · rw [GT.lfs, GT.lfs, or_false] at hj
      have := xZbz _ _ _ hj
      rw [q2 j hj, xZkq alt b [] bs i A j this.1 this.2]
def PF (t : GT) : Prop := ∀ (pre post : List xZ0) (ah : A40 Bool) (Y : A40 (A40 Bool)), body = pre ++ (t.fl ++ post) →
  W (fun N => (xZx N) (pre.length : Int) ah body Y) (fun r => gb r.1 = t.fA body (gb ah) ∧ r.2.1 = ((pre.length + t.fl.length : Nat) : Int) ∧ r.2.2.1 = body ∧ FY (body := body) t pre.length (gb ah) (gm Y) (gm r.2.2.2))
theorem xZcO (n : xZ0) (N : Nat) : xZJ N n = some (lfG n) := by
  simp only [xZJ, lfG]; cases n.Kind == 4 <;> rfl
theorem xZlE (hlen : body.length ≤ 40) {neg : Bool} {v ty : List UInt8} {o : Option TT} : PF (body := body) (.leaf neg v ty o) := by
  intro pre post ah Y hb
  refine W.shift ?_
  show W (fun N => xZE N (xZx N) _ _ _ _) _
  have hix := xZaZ (l := body) (pre := pre) (e := ⟨kL neg, 0, 0, 0, v, ty, oT o⟩) (r := post) hb
  have hpl : pre.length < body.length := by rw [hb]; simp [GT.fl]
  have hp : pre.length < 40 := by omega
  have hlf : lfG ⟨kL neg, 0, 0, 0, v, ty, oT o⟩ = true := by cases neg <;> rfl
  simp only [xZE, hix, Option.bind_some, xZcO, hlf, cond_true, show leB 0 (pre.length : Int) = true from xZ16.2 (by omega), show ltB (pre.length : Int) 40 = true from xZi.2 (by omega), xZ2r, ix_l Y hp (A40.c false)]
  have hFY : ∀ ah' : A40 Bool, gb ah' = gb ah → FY (body := body) (.leaf neg v ty o) pre.length (gb ah) (gm Y) (gm (A40.set Y (pre.length : Int) ah')) := by
    intro ah' e
    rw [xZoQ Y hp, e]
    refine ⟨fun j hj => ?_, fun j hj => ?_⟩
    · simp only [GT.fl, List.length_cons, List.length_nil] at hj
      simp only [upd, if_neg (show j ≠ pre.length by omega)]
    · rw [GT.lf] at hj
      subst hj
      simp only [upd, if_true, GT.rw]
  cases neg
  · simp only [kL, Bool.false_eq_true, if_false, show ((4 : Int) == 4) = true from rfl, cond_true]
    refine W.call (w_id body v (by omega)) ?_
    rintro r (⟨_, h⟩ | ⟨rfl, h⟩)
    · have := h ⟨kL false, 0, 0, 0, v, ty, oT o⟩ (by rw [hb]; simp [GT.fl])
      simp [isA, kL] at this
    · have hid : idn v body < 40 := by have := (xZiZ body h).1; omega
      simp only [show leB 0 (idn v body : Int) = true from xZ16.2 (by omega), show ltB (idn v body : Int) 40 = true from xZi.2 (by omega), xZ2r, ix_l ah hid false, Option.bind_some, W.gd, xZe, W.ret]
      refine ⟨by omega, ?_, by simp [GT.fl], trivial, hFY ah rfl⟩
      rw [xZii ah hid, GT.fA]; simp
  · simp only [kL, if_true, show ((5 : Int) == 4) = false from rfl, cond_false, W.gd, xZe, W.ret]
    exact ⟨by omega, by rw [GT.fA]; simp, by simp [GT.fl], trivial, hFY ah rfl⟩
theorem xZjA {lo hi : Int} (N : Nat) : xZ4L N ⟨3, 1, lo, hi, [], [], []⟩ = some 1 := rfl
theorem xZpa (hlen : body.length ≤ 40) {lo hi : Int} {a : GT} (ih : PF (body := body) a) : PF (body := body) (.rep lo hi a) := by
  intro pre post ah Y hb
  refine W.shift ?_
  show W (fun N => xZE N (xZx N) _ _ _ _) _
  have hix := xZaZ (l := body) (pre := pre) (e := ⟨3, 1, lo, hi, [], [], []⟩) (r := a.fl ++ post) (by rw [hb]; simp [GT.fl])
  have hpl : pre.length < body.length := by rw [hb]; simp [GT.fl]
  simp only [xZE, hix, Option.bind_some, xZcO, show lfG ⟨3, 1, lo, hi, [], [], []⟩ = false from rfl, cond_false, xZjA, W.gd, xZe]
  refine ⟨by omega, ?_⟩
  refine W.lp5 (N := fun N => N) (P := fun vn x y3 y4 y13 => y3 = body ∧ ((x = 0 ∧ vn = (pre.length : Int) + 1 ∧ y4 = Y ∧ y13 = ah) ∨ (x = 1 ∧ vn = (pre.length + 1 + a.fl.length : Nat) ∧ gb y13 = a.fA body (gb ah) ∧ FY (body := body) a (pre.length + 1) (gb ah) (gm Y) (gm y4)))) (m := fun _ x _ _ _ => (1 - x).toNat) ⟨rfl, .inl ⟨rfl, rfl, rfl, rfl⟩⟩ ?_
  rintro F vn x y3 y4 y13 ⟨rfl, h⟩ next
  simp only [xZ1I, show ((3 : Int) == 1) = false from rfl, show ((3 : Int) == 2) = false from rfl, show ((3 : Int) == 3) = true from rfl, cond_true, cond_false]
  rcases h with ⟨rfl, rfl, rfl, rfl⟩ | ⟨rfl, rfl, h1, h2⟩
  · simp only [show ltB 0 1 = true from rfl, cond_true]
    have hcall := ih (pre ++ [⟨3, 1, lo, hi, [], [], []⟩]) post y13 y4 (by rw [hb]; simp [GT.fl])
    have e2 : (pre ++ [(⟨3, 1, lo, hi, [], [], []⟩ : xZ0)]).length = pre.length + 1 := by simp
    rw [e2] at hcall
    refine W.bind (W.lift hcall) ?_
    rintro r ⟨q1, q2, q3, q4⟩
    simp only [W.gd, xZe]
    exact ⟨by omega, next _ _ _ _ _ ⟨q3, .inr ⟨rfl, q2, q1, q4⟩⟩ (by decide)⟩
  · simp only [show ltB 1 1 = false from rfl, cond_false]
    have hFY : FY (body := y3) (.rep lo hi a) pre.length (gb ah) (gm Y) (gm y4) := by
      refine ⟨fun j hj => h2.1 j ?_, fun j hj => ?_⟩
      · simp only [GT.fl, List.length_cons] at hj; omega
      · rw [GT.lf] at hj; rw [h2.2 j hj, GT.rw]
    by_cases hz : lo = 0
    · subst hz
      simp only [show ((0 : Int) == 0) = true from rfl, cond_true, W.ret]
      exact ⟨by rw [GT.fA, if_pos rfl], by simp [GT.fl]; omega, trivial, hFY⟩
    · simp only [show (lo == 0) = false by simpa using hz, cond_false, W.ret]
      exact ⟨by rw [GT.fA, if_neg hz]; exact h1, by simp [GT.fl]; omega, trivial, hFY⟩
theorem xZon (hlen : body.length ≤ 40) {alt : Bool} {bs : List GT} {w : Int} (h : (GT.lst alt bs).ok w) (ih : ∀ b ∈ bs, PF (body := body) b) : PF (body := body) (.lst alt bs) := by
  intro pre post ah Y hb
  refine W.shift ?_
  show W (fun N => xZE N (xZx N) _ _ _ _) _
  have hb' : body = pre ++ [(⟨kA alt, (bs.length : Int), 0, 0, [], [], []⟩ : xZ0)] ++ (GT.fls bs ++ post) := by rw [hb]; simp [GT.fl]
  have hix := xZaZ (l := body) (pre := pre) (e := ⟨kA alt, (bs.length : Int), 0, 0, [], [], []⟩) (r := GT.fls bs ++ post) (by rw [hb]; simp [GT.fl])
  have hpl : pre.length < body.length := by rw [hb]; simp [GT.fl]
  have hk : ∀ N, xZ4L N ⟨kA alt, (bs.length : Int), 0, 0, [], [], []⟩ = some (bs.length : Int) := fun N => by cases alt <;> rfl
  obtain ⟨_, hb2, hb40, _⟩ := h
  simp only [xZE, hix, Option.bind_some, xZcO, show lfG ⟨kA alt, (bs.length : Int), 0, 0, [], [], []⟩ = false by cases alt <;> rfl, cond_false, hk, W.gd, xZe]
  refine ⟨by omega, ?_⟩
  refine W.lp5 (N := fun N => N) (P := fun vn x y3 y4 y13 => y3 = body ∧ ∃ bs1 bs2, bs = bs1 ++ bs2 ∧ x = (bs1.length : Int) ∧ vn = ((pre.length + 1 + (GT.fls bs1).length : Nat) : Int) ∧ FYs (body := body) alt bs1 (pre.length + 1) (gb ah) (gm Y) (gm y4) ∧ (if alt then (bs1 = [] ∧ y13 = ah) ∨ (bs1 ≠ [] ∧ gb y13 = GT.fAl body bs1 (gb ah)) else gb y13 = GT.fAs body bs1 (gb ah))) (m := fun _ x _ _ _ => bs.length - x.toNat)
    ⟨rfl, [], bs, rfl, rfl, by simp [GT.fls], ⟨fun j _ => rfl, fun j hj => by rw [GT.lfs] at hj; exact hj.elim⟩, by cases alt <;> simp [GT.fAs]⟩ ?_
  rintro F vn x y3 y4 y13 ⟨rfl, bs1, bs2, hbs, rfl, rfl, h1, h2⟩ next
  simp only [xZ1I]
  cases bs2 with
  | nil =>
    rw [List.append_nil] at hbs
    subst hbs
    simp only [show ltB (bs.length : Int) (bs.length : Int) = false from xZ19.2 (by omega), cond_false, show ((kA alt) == 3) = false by cases alt <;> rfl, W.ret]
    refine ⟨?_, by simp [GT.fl]; omega, trivial, ⟨fun j hj => h1.1 j ?_, fun j hj => ?_⟩⟩
    · cases alt
      · simp only [Bool.false_eq_true, if_false] at h2; rw [h2, GT.fA]; simp
      · simp only [if_true] at h2
        rcases h2 with ⟨h3, _⟩ | ⟨_, h3⟩
        · rw [h3] at hb2; simp at hb2
        · rw [h3, GT.fA]; simp
    · simp only [GT.fl, List.length_cons] at hj; omega
    · rw [GT.lf] at hj; rw [h1.2 j hj, GT.rw]
  | cons b bs2 =>
    have hbl : bs.length = bs1.length + (bs2.length + 1) := by rw [hbs]; simp
    simp only [show ltB (bs1.length : Int) (bs.length : Int) = true from xZi.2 (by omega), cond_true]
    obtain ⟨s1, s2, hfl⟩ := xZhJ hb' hbs
    cases alt
    · simp only [kA, Bool.false_eq_true, if_false, show ((1 : Int) == 1) = true from rfl, show ((1 : Int) == 2) = false from rfl, cond_true, cond_false] at h2 ⊢
      have hcall := ih b (by rw [hbs]; simp) _ _ y13 y4 s1
      rw [s2] at hcall
      refine W.bind (W.lift hcall) ?_
      rintro r ⟨q1, q2, q3, q4⟩
      simp only [W.gd, xZe]
      refine ⟨by omega, next _ _ _ _ _ ⟨q3, bs1 ++ [b], bs2, by rw [hbs]; simp, by simp, ?_, xZgV h1 (by simp only [Bool.false_eq_true, if_false]; rw [← h2]; exact q4), ?_⟩ (by omega)⟩
      · rw [q2, xZfZ]; simp [GT.fls]; omega
      · simp only [Bool.false_eq_true, if_false]; rw [q1, h2, xZjt]
    · simp only [kA, if_true, show ((2 : Int) == 1) = false from rfl, show ((2 : Int) == 2) = true from rfl, cond_true, cond_false] at h2 ⊢
      have hcall := ih b (by rw [hbs]; simp) _ _ ah y4 s1
      rw [s2] at hcall
      refine W.bind (W.lift hcall) ?_
      rintro r ⟨q1, q2, q3, q4⟩
      have hFY := xZgV h1 (by simp only [if_true]; exact q4)
      have hvn : r.2.1 = ((pre.length + 1 + (GT.fls (bs1 ++ [b])).length : Nat) : Int) := by rw [q2, xZfZ]; simp [GT.fls]; omega
      rcases h2 with ⟨rfl, rfl⟩ | ⟨hne, h2⟩
      · simp only [List.length_nil, show ltB 0 ((0 : Nat) : Int) = false from rfl, cond_false, W.gd, xZe]
        refine ⟨by omega, next _ _ _ _ _ ⟨q3, [] ++ [b], bs2, by rw [hbs]; simp, by simp, hvn, hFY, ?_⟩ (by simp at hbl ⊢; omega)⟩
        simp only [if_true]
        refine .inr ⟨by simp, ?_⟩
        rw [q1]
        funext k; simp [GT.fAl]
      · have hpos : 0 < bs1.length := List.length_pos_iff.2 hne
        simp only [show ltB 0 (bs1.length : Int) = true from xZi.2 (by omega), cond_true]
        refine W.call (N := fun p : Nat × Nat => p.1) (xZom r.1 y13) ?_
        rintro z hz
        simp only [W.gd, xZe]
        refine ⟨by omega, next _ _ _ _ _ ⟨q3, bs1 ++ [b], bs2, by rw [hbs]; simp, by simp, hvn, hFY, ?_⟩ (by omega)⟩
        simp only [if_true]
        refine .inr ⟨by simp, ?_⟩
        rw [hz, q1, h2, xZjj]
mutual
theorem pf (hlen : body.length ≤ 40) : ∀ (t : GT) (w : Int), t.ok w → PF (body := body) t
  | .leaf neg v ty o, w, h => xZlE hlen
  | .rep lo hi a, w, h => xZpa hlen (pf hlen a 3 h.2)
  | .lst alt bs, w, h => xZon hlen h (pfs hlen bs (kA alt) h.2.2.2)
theorem pfs (hlen : body.length ≤ 40) : ∀ (bs : List GT) (w : Int), GT.oks bs w → ∀ b ∈ bs, PF (body := body) b
  | [], w, _, b, hb => by cases hb
  | a :: r, w, h, b, hb => by
    rcases List.mem_cons.1 hb with e | hb
    · rw [e]; exact pf hlen a w h.1
    · exact pfs hlen r w h.2 b hb
end
end
end
section
mutual
def GT.hN : GT → Bool
  | .leaf .. => false
  | .rep lo _ a => GT.hN a || lo == 0
  | .lst alt bs => if alt then GT.hNo bs else GT.hNs bs
def GT.hNs : List GT → Bool
  | [] => true
  | b :: bs => GT.hN b && GT.hNs bs
def GT.hNo : List GT → Bool
  | [] => false
  | b :: bs => GT.hN b || GT.hNo bs
end
mutual
def GT.hF : GT → Nat → Nat → Bool
  | .leaf .., i => upd (fun _ => false) i true
  | .rep _ _ a, i => GT.hF a (i + 1)
  | .lst alt bs, i => GT.hFs alt bs (i + 1)
def GT.hFs (alt : Bool) : List GT → Nat → Nat → Bool
  | [], _ => fun _ => false
  | b :: bs, i => fun k => GT.hF b i k || ((alt || b.hN) && GT.hFs alt bs (i + b.fl.length) k)
end
mutual
def GT.hI : GT → Nat → (Nat → Bool) → Nat → Bool
  | .leaf .., _, J => J
  | .rep _ _ a, i, J => fun k => GT.hI a (i + 1) J k || GT.hF a (i + 1) k
  | .lst _ bs, i, J => GT.hIs bs (i + 1) J
def GT.hIs : List GT → Nat → (Nat → Bool) → Nat → Bool
  | [], _, J => J
  | b :: bs, i, J => GT.hIs bs (i + b.fl.length) (GT.hI b i J)
end
theorem xZjr (b : GT) : ∀ bs, GT.hNs (bs ++ [b]) = (GT.hNs bs && b.hN)
  | [] => by simp [GT.hNs]
  | a :: bs => by rw [List.cons_append, GT.hNs, GT.hNs, xZjr b bs, Bool.and_assoc]
theorem xZjh (b : GT) : ∀ bs, GT.hNo (bs ++ [b]) = (GT.hNo bs || b.hN)
  | [] => by simp [GT.hNo]
  | a :: bs => by rw [List.cons_append, GT.hNo, GT.hNo, xZjh b bs, Bool.or_assoc]
theorem xZjm (alt : Bool) (b : GT) : ∀ (bs : List GT) (i : Nat), GT.hFs alt (bs ++ [b]) i = fun k => GT.hFs alt bs i k || ((alt || GT.hNs bs) && GT.hF b (i + (GT.fls bs).length) k)
  | [], i => by funext k; simp [GT.hFs, GT.hNs, GT.fls]
  | a :: bs, i => by
    funext k
    rw [List.cons_append, GT.hFs, GT.hFs, xZjm alt b bs, GT.hNs, GT.fls, List.length_append, Nat.add_assoc]
    cases alt <;> cases a.hN <;> simp [Bool.or_assoc]
theorem xZjM (b : GT) : ∀ (bs : List GT) (i : Nat) (J : Nat → Bool), GT.hIs (bs ++ [b]) i J = GT.hI b (i + (GT.fls bs).length) (GT.hIs bs i J)
  | [], i, J => by simp [GT.hIs, GT.fls]
  | a :: bs, i, J => by rw [List.cons_append, GT.hIs, GT.hIs, xZjM b bs, GT.fls, List.length_append, Nat.add_assoc]
section
variable {body : List xZ0}
def PH (t : GT) : Prop := ∀ (pre post : List xZ0) (J : A40 Bool), body = pre ++ (t.fl ++ post) →
  W (fun N => (xZo N) (pre.length : Int) body J) (fun r => r.1 = t.hN ∧ gb r.2.1 = t.hF pre.length ∧ r.2.2.1 = ((pre.length + t.fl.length : Nat) : Int) ∧ r.2.2.2.1 = body ∧ gb r.2.2.2.2 = t.hI pre.length (gb J))
theorem xZl5 (hlen : body.length ≤ 40) {neg : Bool} {v ty : List UInt8} {o : Option TT} : PH (body := body) (.leaf neg v ty o) := by
  intro pre post J hb
  refine W.shift ?_
  show W (fun N => xZw N (xZo N) _ _ _) _
  have hix := xZaZ (l := body) (pre := pre) (e := ⟨kL neg, 0, 0, 0, v, ty, oT o⟩) (r := post) hb
  have hpl : pre.length < body.length := by rw [hb]; simp [GT.fl]
  have hp : pre.length < 40 := by omega
  have hlf : lfG ⟨kL neg, 0, 0, 0, v, ty, oT o⟩ = true := by cases neg <;> rfl
  simp only [xZw, hix, Option.bind_some, xZcO, hlf, cond_true, show leB 0 (pre.length : Int) = true from xZ16.2 (by omega), show ltB (pre.length : Int) 40 = true from xZi.2 (by omega), xZ2r, ix_l (A40.c false) hp false, W.gd, xZe, W.ret]
  exact ⟨by omega, by rw [GT.hN], by rw [xZii _ hp, gb_c, GT.hF], by simp [GT.fl], trivial, by rw [GT.hI]⟩
theorem xZoT (hlen : body.length ≤ 40) {lo hi : Int} {a : GT} (ih : PH (body := body) a) : PH (body := body) (.rep lo hi a) := by
  intro pre post J hb
  refine W.shift ?_
  show W (fun N => xZw N (xZo N) _ _ _) _
  have hix := xZaZ (l := body) (pre := pre) (e := ⟨3, 1, lo, hi, [], [], []⟩) (r := a.fl ++ post) (by rw [hb]; simp [GT.fl])
  have hpl : pre.length < body.length := by rw [hb]; simp [GT.fl]
  simp only [xZw, hix, Option.bind_some, xZcO, show lfG ⟨3, 1, lo, hi, [], [], []⟩ = false from rfl, cond_false, xZjA, W.gd, xZe, show ((3 : Int) != 2) = true from rfl]
  refine ⟨by omega, ?_⟩
  refine W.lp6 (N := fun N => N) (P := fun vz vn x y3 y4 y13 => y3 = body ∧ ((x = 0 ∧ vn = (pre.length : Int) + 1 ∧ y4 = J ∧ y13 = A40.c false ∧ vz = true) ∨ (x = 1 ∧ vn = (pre.length + 1 + a.fl.length : Nat) ∧ gb y13 = a.hF (pre.length + 1) ∧ gb y4 = a.hI (pre.length + 1) (gb J) ∧ vz = a.hN))) (m := fun _ _ x _ _ _ => (1 - x).toNat) ⟨rfl, .inl ⟨rfl, rfl, rfl, rfl, rfl⟩⟩ ?_
  rintro F vz vn x y3 y4 y13 ⟨rfl, h⟩ next
  simp only [xZ1G, show ((3 : Int) == 1) = false from rfl, show ((3 : Int) == 2) = false from rfl, show ((3 : Int) == 3) = true from rfl, cond_true, cond_false]
  rcases h with ⟨rfl, rfl, rfl, rfl, rfl⟩ | ⟨rfl, rfl, h1, h2, rfl⟩
  · simp only [show ltB 0 1 = true from rfl, cond_true]
    have hcall := ih (pre ++ [⟨3, 1, lo, hi, [], [], []⟩]) post y4 (by rw [hb]; simp [GT.fl])
    have e2 : (pre ++ [(⟨3, 1, lo, hi, [], [], []⟩ : xZ0)]).length = pre.length + 1 := by simp
    rw [e2] at hcall
    refine W.bind (W.lift hcall) ?_
    rintro r ⟨q1, q2, q3, q4, q5⟩
    refine W.call (N := fun p : Nat × Nat => p.1) (xZdt (A40.c false) r.2.1) ?_
    rintro z hz
    simp only [W.gd, xZe]
    exact ⟨by omega, next _ _ _ _ _ _ ⟨q4, .inr ⟨rfl, q3, by rw [hz, gb_c, q2]; funext k; simp, q5, q1⟩⟩ (by decide)⟩
  · simp only [show ltB 1 1 = false from rfl, cond_false]
    refine W.call (N := fun p : Nat × Nat => p.1) (xZdt y4 y13) ?_
    rintro z hz
    have hI : gb z = (GT.rep lo hi a).hI pre.length (gb J) := by rw [hz, h1, h2, GT.hI]
    have hvn : ((pre.length + 1 + a.fl.length : Nat) : Int) = ((pre.length + (GT.rep lo hi a).fl.length : Nat) : Int) := by simp [GT.fl]; omega
    cases hn : a.hN
    · simp only [cond_false, W.ret]
      exact ⟨by rw [GT.hN, hn]; simp, by rw [h1, GT.hF], hvn, trivial, hI⟩
    · simp only [cond_true, W.ret]
      exact ⟨by rw [GT.hN, hn]; simp, by rw [h1, GT.hF], hvn, trivial, hI⟩
theorem xZoc (hlen : body.length ≤ 40) {alt : Bool} {bs : List GT} {w : Int} (h : (GT.lst alt bs).ok w) (ih : ∀ b ∈ bs, PH (body := body) b) : PH (body := body) (.lst alt bs) := by
  intro pre post J hb
  refine W.shift ?_
  show W (fun N => xZw N (xZo N) _ _ _) _
  have hb' : body = pre ++ [(⟨kA alt, (bs.length : Int), 0, 0, [], [], []⟩ : xZ0)] ++ (GT.fls bs ++ post) := by rw [hb]; simp [GT.fl]
  have hix := xZaZ (l := body) (pre := pre) (e := ⟨kA alt, (bs.length : Int), 0, 0, [], [], []⟩) (r := GT.fls bs ++ post) (by rw [hb]; simp [GT.fl])
  have hpl : pre.length < body.length := by rw [hb]; simp [GT.fl]
  have hk : ∀ N, xZ4L N ⟨kA alt, (bs.length : Int), 0, 0, [], [], []⟩ = some (bs.length : Int) := fun N => by cases alt <;> rfl
  obtain ⟨_, hb2, hb40, _⟩ := h
  simp only [xZw, hix, Option.bind_some, xZcO, show lfG ⟨kA alt, (bs.length : Int), 0, 0, [], [], []⟩ = false by cases alt <;> rfl, cond_false, hk, W.gd, xZe, show ((kA alt) != 2) = !alt by cases alt <;> rfl]
  refine ⟨by omega, ?_⟩
  refine W.lp6 (N := fun N => N) (P := fun vz vn x y3 y4 y13 => y3 = body ∧ ∃ bs1 bs2, bs = bs1 ++ bs2 ∧ x = (bs1.length : Int) ∧ vn = ((pre.length + 1 + (GT.fls bs1).length : Nat) : Int) ∧ gb y4 = GT.hIs bs1 (pre.length + 1) (gb J) ∧ gb y13 = GT.hFs alt bs1 (pre.length + 1) ∧ vz = if alt then GT.hNo bs1 else GT.hNs bs1) (m := fun _ _ x _ _ _ => bs.length - x.toNat)
    ⟨rfl, [], bs, rfl, rfl, by simp [GT.fls], by rw [GT.hIs], by rw [gb_c, GT.hFs], by cases alt <;> simp [GT.hNo, GT.hNs]⟩ ?_
  rintro F vz vn x y3 y4 y13 ⟨rfl, bs1, bs2, hbs, rfl, rfl, h1, h2, hz⟩ next
  simp only [xZ1G]
  cases bs2 with
  | nil =>
    rw [List.append_nil] at hbs
    subst hbs
    simp only [show ltB (bs.length : Int) (bs.length : Int) = false from xZ19.2 (by omega), cond_false, show ((kA alt) == 3) = false by cases alt <;> rfl, W.ret]
    exact ⟨by rw [GT.hN]; exact hz, by rw [h2, GT.hF], by simp [GT.fl]; omega, trivial, by rw [h1, GT.hI]⟩
  | cons b bs2 =>
    have hbl : bs.length = bs1.length + (bs2.length + 1) := by rw [hbs]; simp
    simp only [show ltB (bs1.length : Int) (bs.length : Int) = true from xZi.2 (by omega), cond_true]
    obtain ⟨s1, s2, hfl⟩ := xZhJ hb' hbs
    have hcall := ih b (by rw [hbs]; simp) _ _ y4 s1
    rw [s2] at hcall
    refine W.bind (W.lift hcall) ?_
    rintro r ⟨q1, q2, q3, q4, q5⟩
    have go : ∀ (z : Bool) (y : A40 Bool), z = (if alt then vz || r.1 else vz && r.1) → gb y = (fun k => gb y13 k || ((alt || vz) && gb r.2.1 k)) → W (fun p => F p z r.2.2.1 ((bs1.length : Int) + 1) r.2.2.2.1 r.2.2.2.2 y) (fun r => r.1 = (GT.lst alt bs).hN ∧ gb r.2.1 = (GT.lst alt bs).hF pre.length ∧ r.2.2.1 = ((pre.length + (GT.lst alt bs).fl.length : Nat) : Int) ∧ r.2.2.2.1 = y3 ∧ gb r.2.2.2.2 = (GT.lst alt bs).hI pre.length (gb J)) := by
      intro z y ez ey
      refine next _ _ _ _ _ _ ⟨q4, bs1 ++ [b], bs2, by rw [hbs]; simp, by simp, ?_, ?_, ?_, ?_⟩ (by omega)
      · rw [q3, xZfZ]; simp [GT.fls]; omega
      · rw [q5, h1, xZjM]
      · rw [ey, h2, q2, xZjm]
        funext k
        rw [hz]
        cases alt <;> simp
      · rw [ez, hz, q1]
        cases alt <;> simp [xZjr, xZjh]
    cases alt
    · simp only [kA, Bool.false_eq_true, if_false, show ((1 : Int) == 2) = false from rfl, cond_false] at go ⊢
      cases vz
      · simp only [cond_false, W.gd, xZe]
        exact ⟨by omega, go _ _ rfl (by funext k; simp)⟩
      · simp only [cond_true]
        refine W.call (N := fun p : Nat × Nat => p.1) (xZdt y13 r.2.1) ?_
        rintro z hz2
        simp only [W.gd, xZe]
        exact ⟨by omega, go _ _ (by simp) (by rw [hz2]; funext k; simp)⟩
    · simp only [kA, if_true, show ((2 : Int) == 2) = true from rfl, cond_true] at go ⊢
      refine W.call (N := fun p : Nat × Nat => p.1) (xZdt y13 r.2.1) ?_
      rintro z hz2
      cases vz
      · simp only [cond_false, W.gd, xZe]
        exact ⟨by omega, go _ _ (by simp) (by rw [hz2]; funext k; simp)⟩
      · simp only [cond_true, W.gd, xZe]
        exact ⟨by omega, go _ _ (by simp) (by rw [hz2]; funext k; simp)⟩
mutual
theorem ph (hlen : body.length ≤ 40) : ∀ (t : GT) (w : Int), t.ok w → PH (body := body) t
  | .leaf neg v ty o, w, h => xZl5 hlen
  | .rep lo hi a, w, h => xZoT hlen (ph hlen a 3 h.2)
  | .lst alt bs, w, h => xZoc hlen h (phs hlen bs (kA alt) h.2.2.2)
theorem phs (hlen : body.length ≤ 40) : ∀ (bs : List GT) (w : Int), GT.oks bs w → ∀ b ∈ bs, PH (body := body) b
  | [], w, _, b, hb => by cases hb
  | a :: r, w, h, b, hb => by
    rcases List.mem_cons.1 hb with e | hb
    · rw [e]; exact ph hlen a w h.1
    · exact phs hlen r w h.2 b hb
end
end
end
section
section
variable (body : List xZ0)
def psd (out : List Int) (v : List UInt8) : Prop := ∃ j : Nat, (j : Int) ∈ out ∧ ∃ n, body[j]? = some n ∧ isA n v = true
def inv (A : Nat → Bool) (out : List Int) : Prop := ∀ k, A k = true → ∃ n, body[k]? = some n ∧ psd body out n.Var
def Good (L : Nat → Prop) (R : Nat → Nat → Bool) (s s' : WS) : Prop := ∃ new, s'.out = s.out ++ new ∧ ∀ p j q, new = p ++ j :: q → ∃ jn : Nat, j = (jn : Int) ∧ L jn ∧ inv body (R jn) (s.out ++ p)
end
section
variable {body : List xZ0} {cs : List Int}
theorem xZhP {out new : List Int} {v : List UInt8} (h : psd body out v) : psd body (out ++ new) v := by
  obtain ⟨j, h1, h2⟩ := h
  exact ⟨j, List.mem_append_left _ h1, h2⟩
theorem xZhn {A : Nat → Bool} {out : List Int} (h : inv body A out) (new : List Int) : inv body A (out ++ new) := fun k hk => by
  obtain ⟨n, h1, h2⟩ := h k hk
  exact ⟨n, h1, xZhP h2⟩
theorem Good.refl {L R} {s s' : WS} (h : s'.out = s.out) : Good body L R s s' := ⟨[], by rw [h, List.append_nil], fun p j q h => by cases p <;> cases h⟩
theorem Good.imp {L L' : Nat → Prop} {R R' : Nat → Nat → Bool} {s s' : WS} (h : Good body L R s s') (hi : ∀ j, L j → L' j ∧ R' j = R j) : Good body L' R' s s' := by
  obtain ⟨new, h1, h2⟩ := h
  refine ⟨new, h1, fun p j q h => ?_⟩
  obtain ⟨jn, q1, q2, q3⟩ := h2 p j q h
  obtain ⟨r1, r2⟩ := hi jn q2
  exact ⟨jn, q1, r1, by rw [r2]; exact q3⟩
theorem Good.from {L R} {s0 s s' : WS} (h : Good body L R s s') (h0 : s0.out = s.out) : Good body L R s0 s' := by
  obtain ⟨new, h1, h2⟩ := h
  exact ⟨new, by rw [h0]; exact h1, by rw [h0]; exact h2⟩
theorem Good.trans {L R} {s s1 s2 : WS} (h : Good body L R s s1) (h' : Good body L R s1 s2) : Good body L R s s2 := by
  obtain ⟨n1, a1, a2⟩ := h
  obtain ⟨n2, b1, b2⟩ := h'
  refine ⟨n1 ++ n2, by rw [b1, a1, List.append_assoc], fun p j q e => ?_⟩
  rcases List.append_eq_append_iff.1 e with ⟨r, e1, e2⟩ | ⟨r, e1, e2⟩
  · obtain ⟨jn, q1, q2, q3⟩ := b2 r j q e2
    refine ⟨jn, q1, q2, ?_⟩
    rw [e1, ← List.append_assoc, ← a1]; exact q3
  · cases r with
    | nil =>
      rw [List.append_nil] at e1
      obtain ⟨jn, q1, q2, q3⟩ := b2 [] j q (by simpa using e2.symm)
      refine ⟨jn, q1, q2, ?_⟩
      rw [List.append_nil, a1, e1] at q3; exact q3
    | cons x r =>
      rw [List.cons_append] at e2
      cases e2
      exact a2 p j r e1
theorem xZnE {L R} {A : Nat → Bool} {s s' : WS} (h : Good body L R s s') (hi : inv body A s.out) : inv body A s'.out := by
  obtain ⟨new, h1, _⟩ := h
  rw [h1]; exact xZhn hi new
theorem wk_en {s : WS} (h : s.en = true) (t : GT) (i : Nat) : t.wk cs i s = s := by cases t <;> rw [GT.wk, if_pos h]
def SU (body : List xZ0) (cs : List Int) (t : GT) : Prop := ∀ (pre post : List xZ0) (A : Nat → Bool) (s : WS), body = pre ++ (t.fl ++ post) → s.ok → inv body A s.out →
  Good body (t.lf pre.length) (t.rw body pre.length A) s (t.wk cs pre.length s) ∧ ((t.wk cs pre.length s).en = false → inv body (t.fA body A) (t.wk cs pre.length s).out)
theorem xZnN {neg : Bool} {v ty : List UInt8} {o : Option TT} : SU body cs (.leaf neg v ty o) := by
  intro pre post A s hb hs hi
  cases he : s.en
  · have hw : (GT.leaf neg v ty o).wk cs pre.length s = ⟨s.tk, s.out ++ [(pre.length : Int)], ((s.out ++ [(pre.length : Int)]).length : Int) == 100⟩ := by rw [GT.wk, if_neg (by rw [he]; simp)]
    rw [hw]
    have hn : body[pre.length]? = some ⟨kL neg, 0, 0, 0, v, ty, oT o⟩ := by rw [hb]; simp [GT.fl]
    refine ⟨⟨[(pre.length : Int)], rfl, fun p j q e => ?_⟩, fun _ => ?_⟩
    · cases p with
      | nil =>
        simp only [List.nil_append, List.cons.injEq] at e
        exact ⟨pre.length, e.1.symm, by rw [GT.lf], by rw [GT.rw, List.append_nil]; exact hi⟩
      | cons x p => simp at e
    · rw [GT.fA]
      cases neg
      · simp only [Bool.false_eq_true, if_false]
        intro k hk
        by_cases hk2 : k = idn v body
        · have hA : isA ⟨kL false, 0, 0, 0, v, ty, oT o⟩ v = true := by simp [isA, kL]
          have hmem : (⟨kL false, 0, 0, 0, v, ty, oT o⟩ : xZ0) ∈ body := List.mem_of_getElem? hn
          obtain ⟨h1, n, h2, h3⟩ := xZiZ (v := v) body ⟨_, hmem, hA⟩
          subst hk2
          refine ⟨n, h2, pre.length, by simp, _, hn, ?_⟩
          simp only [isA, Bool.and_eq_true, beq_iff_eq] at h3
          rw [h3.2]; exact hA
        · rw [upd, if_neg hk2] at hk
          obtain ⟨n, h1, h2⟩ := hi k hk
          exact ⟨n, h1, xZhP h2⟩
      · simp only [if_true]; exact xZhn hi _
  · rw [wk_en he]
    exact ⟨Good.refl rfl, fun h => by rw [he] at h; cases h⟩
theorem xZjF {a : GT} {i : Nat} {A : Nat → Bool} {L : Nat → Prop} {R : Nat → Nat → Bool} (hf : ∀ s : WS, s.ok → inv body A s.out → Good body L R s (a.wk cs i s) ∧ ((a.wk cs i s).en = false → inv body (a.fA body A) (a.wk cs i s).out)) :
    ∀ (n : Nat) (u : WS), u.ok → inv body A u.out → Good body L R u (iterW (fun s => a.wk cs i s) n u) ∧ ((iterW (fun s => a.wk cs i s) n u).en = false → n = 0 ∨ inv body (a.fA body A) (iterW (fun s => a.wk cs i s) n u).out)
  | 0, u, hu, hi => ⟨Good.refl rfl, fun _ => .inl rfl⟩
  | n + 1, u, hu, hi => by
    rw [iterW]
    cases he : u.en
    · simp only [Bool.false_eq_true, if_false]
      obtain ⟨g1, g2⟩ := hf u hu hi
      obtain ⟨g3, g4⟩ := xZjF hf n _ (wk_ok a i u hu) (xZnE g1 hi)
      refine ⟨g1.trans g3, fun h => .inr ?_⟩
      rcases g4 h with rfl | h5
      · rw [iterW] at h ⊢; exact g2 h
      · exact h5
    · simp only [if_true]
      exact ⟨Good.refl rfl, fun h => by rw [he] at h; cases h⟩
theorem xZoq {lo hi : Int} {a : GT} {w : Int} (h : (GT.rep lo hi a).ok w) (ih : SU body cs a) : SU body cs (.rep lo hi a) := by
  intro pre post A s hb hs hi'
  cases he : s.en
  rotate_left
  · rw [wk_en he]; exact ⟨Good.refl rfl, fun h => by rw [he] at h; cases h⟩
  rw [GT.wk, if_neg (by rw [he]; simp)]
  obtain ⟨c1, c2, c3⟩ := xZcp (cs := cs) hs
  have co := xZaH cs s
  obtain ⟨⟨l1, l2, l3, l4, l5, l6⟩, _⟩ := h
  have e2 : (pre ++ [(⟨3, 1, lo, hi, [], [], []⟩ : xZ0)]).length = pre.length + 1 := by simp
  have hf : ∀ s : WS, s.ok → inv body A s.out → Good body (a.lf (pre.length + 1)) (a.rw body (pre.length + 1) A) s (a.wk cs (pre.length + 1) s) ∧ ((a.wk cs (pre.length + 1) s).en = false → inv body (a.fA body A) (a.wk cs (pre.length + 1) s).out) := fun s hs hq => by
    have := ih (pre ++ [⟨3, 1, lo, hi, [], [], []⟩]) post A s (by rw [hb]; simp [GT.fl]) hs hq
    rwa [e2] at this
  obtain ⟨g1, g2⟩ := xZjF hf (timG lo hi (cho cs s).1).toNat (cho cs s).2 c1 (by rw [co]; exact hi')
  refine ⟨(g1.from co.symm).imp fun j hj => ⟨by rw [GT.lf]; exact hj, by rw [GT.rw]⟩, fun hen => ?_⟩
  rw [GT.fA]
  by_cases hz : lo = 0
  · rw [if_pos hz]; exact xZnE g1 (by rw [co]; exact hi')
  · rw [if_neg hz]
    rcases g2 hen with h0 | h0
    · exfalso
      revert h0; unfold timG; split <;> omega
    · exact h0
theorem xZjp {b : GT} {A : Nat → Bool} {k : Nat} : ∀ {bs : List GT}, b ∈ bs → GT.fAl body bs A k = true → b.fA body A k = true
  | a :: bs, hb, h => by
    simp only [GT.fAl, Bool.and_eq_true] at h
    rcases List.mem_cons.1 hb with rfl | hb
    · exact h.1
    · exact xZjp hb h.2
theorem xZnX : ∀ (bs : List GT) (_ : ∀ b ∈ bs, SU body cs b) (pre post : List xZ0) (A : Nat → Bool) (s : WS), body = pre ++ (GT.fls bs ++ post) → s.ok → inv body A s.out →
    Good body (GT.lfs bs pre.length) (GT.rws body false bs pre.length A) s (GT.wks cs bs pre.length s) ∧ ((GT.wks cs bs pre.length s).en = false → inv body (GT.fAs body bs A) (GT.wks cs bs pre.length s).out)
  | [], _, pre, post, A, s, hb, hs, hi => by rw [GT.wks, GT.fAs]; exact ⟨Good.refl rfl, fun _ => hi⟩
  | b :: bs, ih, pre, post, A, s, hb, hs, hi => by
    rw [GT.wks]
    cases he : s.en
    rotate_left
    · simp only [if_true]; exact ⟨Good.refl rfl, fun h => by rw [he] at h; cases h⟩
    simp only [Bool.false_eq_true, if_false]
    rw [GT.fls, List.append_assoc] at hb
    obtain ⟨g1, g2⟩ := ih b (by simp) pre (GT.fls bs ++ post) A s hb hs hi
    have G1 : Good body (GT.lfs (b :: bs) pre.length) (GT.rws body false (b :: bs) pre.length A) s (b.wk cs pre.length s) := g1.imp fun j hj => ⟨by rw [GT.lfs]; exact .inl hj, by rw [GT.rws, if_pos (xZbz _ _ _ hj).2]⟩
    cases he1 : (b.wk cs pre.length s).en
    · obtain ⟨g3, g4⟩ := xZnX bs (fun x hx => ih x (by simp [hx])) (pre ++ b.fl) post (b.fA body A) _ (by rw [hb]; simp) (wk_ok b pre.length s hs) (g2 he1)
      rw [List.length_append] at g3 g4
      refine ⟨G1.trans (g3.imp fun j hj => ⟨by rw [GT.lfs]; exact .inr hj, ?_⟩), fun h => by rw [GT.fAs]; exact g4 h⟩
      have := (xZbu _ _ _ hj).1
      rw [GT.rws, if_neg (by omega)]; simp
    · rw [xZiR he1]
      exact ⟨G1, fun h => by rw [he1] at h; cases h⟩
theorem xZoN {alt : Bool} {bs : List GT} {w : Int} (h : (GT.lst alt bs).ok w) (ih : ∀ b ∈ bs, SU body cs b) : SU body cs (.lst alt bs) := by
  intro pre post A s hb hs hi
  cases he : s.en
  rotate_left
  · rw [wk_en he]; exact ⟨Good.refl rfl, fun h => by rw [he] at h; cases h⟩
  rw [GT.wk, if_neg (by rw [he]; simp)]
  have hb' : body = pre ++ [(⟨kA alt, (bs.length : Int), 0, 0, [], [], []⟩ : xZ0)] ++ (GT.fls bs ++ post) := by rw [hb]; simp [GT.fl]
  have e2 : (pre ++ [(⟨kA alt, (bs.length : Int), 0, 0, [], [], []⟩ : xZ0)]).length = pre.length + 1 := by simp
  cases alt
  · simp only [Bool.false_eq_true, if_false]
    obtain ⟨g1, g2⟩ := xZnX bs ih (pre ++ [⟨kA false, (bs.length : Int), 0, 0, [], [], []⟩]) post A s hb' hs hi
    rw [e2] at g1 g2
    exact ⟨g1.imp fun j hj => ⟨by rw [GT.lf]; exact hj, by rw [GT.rw]⟩, fun h => by rw [GT.fA]; simpa using g2 h⟩
  · simp only [if_true]
    obtain ⟨_, k1, k2, k3⟩ := h
    obtain ⟨c1, c2, c3⟩ := xZcp (cs := cs) hs
    have co := xZaH cs s
    have hkl : (cho cs s).1.toNat % bs.length < bs.length := Nat.mod_lt _ (by omega)
    generalize (cho cs s).1.toNat % bs.length = k at hkl ⊢
    obtain ⟨bs1, b, bs2, hbs, rfl⟩ : ∃ bs1 b bs2, bs = bs1 ++ b :: bs2 ∧ k = bs1.length := ⟨bs.take k, bs[k], bs.drop (k + 1), by simp, by simp; omega⟩
    obtain ⟨s1, s2, hfl⟩ := xZhJ hb' hbs
    have hbm : b ∈ bs := by rw [hbs]; simp
    have hwk := xZh2 (cs := cs) (b := b) (bs2 := bs2) bs1 (pre.length + 1) (cho cs s).2
    rw [← hbs] at hwk
    rw [hwk]
    have e3 : (pre ++ [(⟨kA true, (bs.length : Int), 0, 0, [], [], []⟩ : xZ0)] ++ GT.fls bs1).length = pre.length + 1 + (GT.fls bs1).length := by rw [List.length_append, e2]
    obtain ⟨g1, g2⟩ := ih b hbm _ _ A (cho cs s).2 s1 c1 (by rw [co]; exact hi)
    rw [e3] at g1 g2
    refine ⟨(g1.from co.symm).imp fun j hj => ⟨?_, ?_⟩, fun h => ?_⟩
    · rw [GT.lf, hbs, xZhu, GT.lfs]; exact .inr (.inl hj)
    · have := xZbz _ _ _ hj
      rw [GT.rw, hbs, xZkq true b bs2 bs1 _ A j this.1 this.2]; simp
    · rw [GT.fA, if_pos rfl]
      intro k hk
      exact g2 h k (xZjp hbm hk)
mutual
theorem su : ∀ (t : GT) (w : Int), t.ok w → SU body cs t
  | .leaf neg v ty o, w, h => xZnN
  | .rep lo hi a, w, h => xZoq h (su a 3 h.2)
  | .lst alt bs, w, h => xZoN h (sus bs (kA alt) h.2.2.2)
theorem sus : ∀ (bs : List GT) (w : Int), GT.oks bs w → ∀ b ∈ bs, SU body cs b
  | [], w, _, b, hb => by cases hb
  | a :: r, w, h, b, hb => by
    rcases List.mem_cons.1 hb with e | hb
    · rw [e]; exact su a w h.1
    · exact sus r w h.2 b hb
end
def Fst (F : Nat → Bool) (Z : Prop) (s s' : WS) : Prop := ∃ new, s'.out = s.out ++ new ∧ (∀ j q, new = j :: q → ∃ jn : Nat, j = (jn : Int) ∧ F jn = true) ∧ (new = [] → s'.en = false → Z)
theorem Fst.refl {F Z} {s s' : WS} (h : s'.out = s.out) (hz : s'.en = false → Z) : Fst F Z s s' := ⟨[], by rw [h, List.append_nil], fun j q h => (by cases h), fun _ => hz⟩
theorem Fst.imp {F F' Z Z'} {s s' : WS} (h : Fst F Z s s') (h1 : ∀ k, F k = true → F' k = true) (h2 : Z → Z') : Fst F' Z' s s' := by
  obtain ⟨new, a, b, c⟩ := h
  exact ⟨new, a, fun j q e => (by obtain ⟨jn, p1, p2⟩ := b j q e; exact ⟨jn, p1, h1 _ p2⟩), fun e1 e2 => h2 (c e1 e2)⟩
theorem Fst.from {F Z} {s0 s s' : WS} (h : Fst F Z s s') (h0 : s0.out = s.out) : Fst F Z s0 s' := by
  obtain ⟨new, a, b, c⟩ := h
  exact ⟨new, by rw [h0]; exact a, b, c⟩
theorem Fst.trans {F Z F' Z'} {s s1 s2 : WS} (h : Fst F Z s s1) (h1 : ∀ k, F k = true → F' k = true) (h2 : ∃ new, s2.out = s1.out ++ new) (h3 : s1.en = true → s2 = s1) (h4 : s1.en = false → Z → Fst F' Z' s1 s2) : Fst F' Z' s s2 := by
  obtain ⟨n1, a, b, c⟩ := h
  obtain ⟨n2, a2⟩ := h2
  cases n1 with
  | cons x n1 =>
    refine ⟨(x :: n1) ++ n2, by rw [a2, a, List.append_assoc], fun j q e => ?_, fun e => (by cases e)⟩
    simp only [List.cons_append, List.cons.injEq] at e
    obtain ⟨jn, p1, p2⟩ := b x n1 rfl
    exact ⟨jn, by rw [← e.1]; exact p1, h1 _ p2⟩
  | nil =>
    rw [List.append_nil] at a
    cases he : s1.en
    · obtain ⟨m, q1, q2, q3⟩ := h4 he (c rfl he)
      exact ⟨m, by rw [q1, a], q2, q3⟩
    · have := h3 he
      exact Fst.refl (by rw [this, a]) (fun h => by rw [this, he] at h; cases h)
mutual
theorem wk_gr : ∀ (t : GT) (i : Nat) (s : WS), ∃ new, (t.wk cs i s).out = s.out ++ new
  | .leaf neg v ty o, i, s => by
    rw [GT.wk]; split
    · exact ⟨[], by simp⟩
    · exact ⟨[(i : Int)], rfl⟩
  | .rep lo hi a, i, s => by
    rw [GT.wk]; split
    · exact ⟨[], by simp⟩
    · have key : ∀ (n : Nat) (u : WS), ∃ new, (iterW (fun s => a.wk cs (i + 1) s) n u).out = u.out ++ new := by
        intro n
        induction n with
        | zero => intro u; exact ⟨[], by simp [iterW]⟩
        | succ n ihn =>
          intro u
          rw [iterW]; split
          · exact ⟨[], by simp⟩
          · obtain ⟨n1, e1⟩ := wk_gr a (i + 1) u
            obtain ⟨n2, e2⟩ := ihn (a.wk cs (i + 1) u)
            exact ⟨n1 ++ n2, by rw [e2, e1, List.append_assoc]⟩
      obtain ⟨n1, e1⟩ := key (timG lo hi (cho cs s).1).toNat (cho cs s).2
      exact ⟨n1, by rw [e1, xZaH]⟩
  | .lst alt bs, i, s => by
    rw [GT.wk]; split
    · exact ⟨[], by simp⟩
    · split
      · obtain ⟨n1, e1⟩ := xZnQ bs ((cho cs s).1.toNat % bs.length) (i + 1) (cho cs s).2
        exact ⟨n1, by rw [e1, xZaH]⟩
      · exact xZkM bs (i + 1) s
theorem xZnQ : ∀ (bs : List GT) (k i : Nat) (s : WS), ∃ new, (GT.wkp cs bs k i s).out = s.out ++ new
  | [], k, i, s => ⟨[], by rw [GT.wkp]; simp⟩
  | b :: bs, k, i, s => by
    rw [GT.wkp]; split
    · exact wk_gr b i s
    · exact xZnQ bs _ _ s
theorem xZkM : ∀ (bs : List GT) (i : Nat) (s : WS), ∃ new, (GT.wks cs bs i s).out = s.out ++ new
  | [], i, s => ⟨[], by rw [GT.wks]; simp⟩
  | b :: bs, i, s => by
    rw [GT.wks]; split
    · exact ⟨[], by simp⟩
    · obtain ⟨n1, e1⟩ := wk_gr b i s
      obtain ⟨n2, e2⟩ := xZkM bs (i + b.fl.length) (b.wk cs i s)
      exact ⟨n1 ++ n2, by rw [e2, e1, List.append_assoc]⟩
end
def HD (cs : List Int) (t : GT) : Prop := ∀ (i : Nat) (s : WS), s.ok → Fst (t.hF i) (t.hN = true) s (t.wk cs i s)
theorem xZgW {a : GT} {i : Nat} : ∀ (n : Nat) (u : WS), ∃ new, (iterW (fun s => a.wk cs i s) n u).out = u.out ++ new
  | 0, u => ⟨[], by simp [iterW]⟩
  | n + 1, u => by
    rw [iterW]; split
    · exact ⟨[], by simp⟩
    · obtain ⟨n1, e1⟩ := wk_gr (cs := cs) a i u
      obtain ⟨n2, e2⟩ := xZgW n (a.wk cs i u)
      exact ⟨n1 ++ n2, by rw [e2, e1, List.append_assoc]⟩
theorem xZjX {a : GT} {i : Nat} (ih : HD cs a) : ∀ (n : Nat) (u : WS), u.ok → Fst (a.hF i) (n = 0 ∨ a.hN = true) u (iterW (fun s => a.wk cs i s) n u)
  | 0, u, hu => Fst.refl rfl fun _ => .inl rfl
  | n + 1, u, hu => by
    rw [iterW]
    cases he : u.en
    · simp only [Bool.false_eq_true, if_false]
      exact (ih i u hu).trans (fun _ h => h) (xZgW n _) (fun h => xZf1 h n) fun _ hz => (xZjX ih n _ (wk_ok a i u hu)).imp (fun _ h => h) fun _ => .inr hz
    · simp only [if_true]
      exact Fst.refl rfl fun h => by rw [he] at h; cases h
theorem xZod {lo hi : Int} {a : GT} {w : Int} (h : (GT.rep lo hi a).ok w) (ih : HD cs a) : HD cs (.rep lo hi a) := by
  intro i s hs
  cases he : s.en
  rotate_left
  · rw [wk_en he]; exact Fst.refl rfl fun h => by rw [he] at h; cases h
  rw [GT.wk, if_neg (by rw [he]; simp)]
  obtain ⟨c1, c2, c3⟩ := xZcp (cs := cs) hs
  obtain ⟨⟨l1, l2, l3, l4, l5, l6⟩, _⟩ := h
  refine ((xZjX (i := i + 1) ih (timG lo hi (cho cs s).1).toNat (cho cs s).2 c1).from (xZaH cs s).symm).imp (fun k hk => by rw [GT.hF]; exact hk) ?_
  rw [GT.hN]
  rintro (h0 | h0)
  · have : lo = 0 := by
      revert h0; unfold timG; split <;> omega
    rw [this]; simp
  · rw [h0]; rfl
theorem xZjy {alt : Bool} {b : GT} {bs2 : List GT} {k : Nat} (h : alt = true) : ∀ (bs1 : List GT) (i : Nat), b.hF (i + (GT.fls bs1).length) k = true → GT.hFs alt (bs1 ++ b :: bs2) i k = true
  | [], i, hk => by simp only [GT.fls, List.length_nil, Nat.add_zero] at hk; simp [GT.hFs, hk]
  | a :: bs1, i, hk => by
    rw [GT.fls, List.length_append, ← Nat.add_assoc] at hk
    have := xZjy (bs2 := bs2) h bs1 _ hk
    rw [h] at this ⊢
    simp only [List.cons_append, GT.hFs, this]; simp
theorem xZjJ {b : GT} (hb : b.hN = true) : ∀ {bs : List GT}, b ∈ bs → GT.hNo bs = true
  | a :: bs, h => by
    rw [GT.hNo]
    rcases List.mem_cons.1 h with rfl | h
    · rw [hb]; rfl
    · rw [xZjJ hb h]; simp
theorem xZlV : ∀ (bs : List GT) (_ : ∀ b ∈ bs, HD cs b) (i : Nat) (s : WS), s.ok → Fst (GT.hFs false bs i) (GT.hNs bs = true) s (GT.wks cs bs i s)
  | [], _, i, s, hs => by rw [GT.wks]; exact Fst.refl rfl fun _ => by rw [GT.hNs]
  | b :: bs, ih, i, s, hs => by
    rw [GT.wks]
    cases he : s.en
    rotate_left
    · simp only [if_true]; exact Fst.refl rfl fun h => by rw [he] at h; cases h
    simp only [Bool.false_eq_true, if_false]
    refine (ih b (by simp) i s hs).trans (fun k hk => by simp only [GT.hFs, hk, Bool.true_or]) (xZkM bs _ _) (fun h => xZiR h _ _) fun _ hz => (xZlV bs (fun x hx => ih x (by simp [hx])) (i + b.fl.length) _ (wk_ok b i s hs)).imp (fun k hk => ?_) fun h => ?_
    · simp only [GT.hFs, hk, hz]; simp
    · rw [GT.hNs, hz, h]; rfl
theorem xZoM {alt : Bool} {bs : List GT} {w : Int} (h : (GT.lst alt bs).ok w) (ih : ∀ b ∈ bs, HD cs b) : HD cs (.lst alt bs) := by
  intro i s hs
  cases he : s.en
  rotate_left
  · rw [wk_en he]; exact Fst.refl rfl fun h => by rw [he] at h; cases h
  rw [GT.wk, if_neg (by rw [he]; simp)]
  cases alt
  · simp only [Bool.false_eq_true, if_false]
    exact (xZlV bs ih (i + 1) s hs).imp (fun k hk => by rw [GT.hF]; exact hk) fun h => by rw [GT.hN]; simpa using h
  · simp only [if_true]
    obtain ⟨_, k1, k2, k3⟩ := h
    obtain ⟨c1, c2, c3⟩ := xZcp (cs := cs) hs
    have hkl : (cho cs s).1.toNat % bs.length < bs.length := Nat.mod_lt _ (by omega)
    generalize (cho cs s).1.toNat % bs.length = k at hkl ⊢
    obtain ⟨bs1, b, bs2, hbs, rfl⟩ : ∃ bs1 b bs2, bs = bs1 ++ b :: bs2 ∧ k = bs1.length := ⟨bs.take k, bs[k], bs.drop (k + 1), by simp, by simp; omega⟩
    have hbm : b ∈ bs := by rw [hbs]; simp
    have hwk := xZh2 (cs := cs) (b := b) (bs2 := bs2) bs1 (i + 1) (cho cs s).2
    rw [← hbs] at hwk
    rw [hwk]
    refine ((ih b hbm _ _ c1).from (xZaH cs s).symm).imp (fun k hk => ?_) fun h => ?_
    · rw [GT.hF, hbs]; exact xZjy rfl bs1 _ hk
    · rw [GT.hN, if_pos rfl]; exact xZjJ h hbm
theorem xZmH {neg : Bool} {v ty : List UInt8} {o : Option TT} : HD cs (.leaf neg v ty o) := by
  intro i s hs
  cases he : s.en
  · rw [GT.wk, if_neg (by rw [he]; simp)]
    refine ⟨[(i : Int)], rfl, fun j q e => ?_, fun e => (by cases e)⟩
    simp only [List.cons.injEq] at e
    exact ⟨i, e.1.symm, by rw [GT.hF]; simp [upd]⟩
  · rw [wk_en he]; exact Fst.refl rfl fun h => by rw [he] at h; cases h
mutual
theorem hd : ∀ (t : GT) (w : Int), t.ok w → HD cs t
  | .leaf neg v ty o, w, h => xZmH
  | .rep lo hi a, w, h => xZod h (hd a 3 h.2)
  | .lst alt bs, w, h => xZoM h (hds bs (kA alt) h.2.2.2)
theorem hds : ∀ (bs : List GT) (w : Int), GT.oks bs w → ∀ b ∈ bs, HD cs b
  | [], w, _, b, hb => by cases hb
  | a :: r, w, h, b, hb => by
    rcases List.mem_cons.1 hb with e | hb
    · rw [e]; exact hd a w h.1
    · exact hds r w h.2 b hb
end
end
end
section
theorem e_num (k : Int) (N : Nat) : xZ2N N k = some (k == 1 || k == 3) := by
  simp only [xZ2N]; cases k == 1 <;> rfl
theorem w_sum (a b : Int) : W (fun N => xZF N a b) (fun _ => True) := by
  simp only [xZF, e_num, Option.bind_some, W.cond, W.ret]
  exact ⟨fun _ => trivial, fun _ => ⟨fun _ => trivial, fun _ => trivial⟩⟩
theorem xZnh (o a b : Int) : W (fun N => xZ3f N o a b) (fun _ => True) := by
  simp only [xZ3f]
  repeat' first
    | exact W.ret.2 trivial
    | refine W.cond.2 ⟨fun _ => ?_, fun _ => ?_⟩
    | refine W.call (N := fun N => N) (w_sum _ _) fun _ _ => ?_
def cl : List xZ1 → Prop
  | [] => True
  | x :: post => ((x.Kind = 4 → ∃ (a b : TS) (r : List xZ1), post = a.fl ++ (b.fl ++ r)) ∧ (x.Kind = 5 ∨ x.Kind = 6 → ∃ (s : TS) (r : List xZ1), x :: post = s.fl ++ r)) ∧ cl post
theorem cl_u (a : TU) {R : List xZ1} (h : cl R) : cl (a.nd :: R) := by
  refine ⟨?_, h⟩
  cases a <;> simp [TU.nd]
theorem cl_s : ∀ (s : TS) {R : List xZ1}, cl R → cl (s.fl ++ R)
  | .u a, R, h => cl_u a h
  | .op k s a, R, h => by
    have e : (TS.op k s a).fl ++ R = bn (if k then 6 else 5) :: (s.fl ++ (a.nd :: R)) := by simp [TS.fl]
    have h2 := cl_s s (cl_u a h)
    rw [e]
    refine ⟨⟨fun h4 => ?_, fun _ => ⟨.op k s a, R, e.symm⟩⟩, h2⟩
    cases k <;> simp [bn] at h4
theorem cl_t : ∀ (t : TT) {R : List xZ1}, cl R → cl (t.fl ++ R)
  | .or a b, R, h => by
    have h2 := cl_t a (cl_t b h)
    rw [TT.fl, List.cons_append, List.append_assoc]
    exact ⟨⟨fun h4 => by simp [bn] at h4, fun h5 => by simp [bn] at h5⟩, h2⟩
  | .and a b, R, h => by
    have h2 := cl_t a (cl_t b h)
    rw [TT.fl, List.cons_append, List.append_assoc]
    exact ⟨⟨fun h4 => by simp [bn] at h4, fun h5 => by simp [bn] at h5⟩, h2⟩
  | .not a, R, h => by
    have h2 := cl_t a h
    rw [TT.fl, List.cons_append]
    exact ⟨⟨fun h4 => by simp [bn] at h4, fun h5 => by simp [bn] at h5⟩, h2⟩
  | .test o a b, R, h => by
    have h2 := cl_s a (cl_s b h)
    rw [TT.fl, List.cons_append, List.append_assoc]
    exact ⟨⟨fun _ => ⟨a, b, R, rfl⟩, fun h5 => by simp at h5⟩, h2⟩
theorem cl_o (o : Option TT) : cl (oT o) := by
  cases o with
  | none => trivial
  | some t => have := cl_t t (R := []) trivial; rwa [List.append_nil] at this
theorem cl_at {x : xZ1} {post : List xZ1} : ∀ {pre : List xZ1}, cl (pre ++ x :: post) → (x.Kind = 4 → ∃ (a b : TS) (r : List xZ1), post = a.fl ++ (b.fl ++ r)) ∧ (x.Kind = 5 ∨ x.Kind = 6 → ∃ (s : TS) (r : List xZ1), x :: post = s.fl ++ r)
  | [], h => h.1
  | _ :: pre, h => cl_at (pre := pre) h.2
mutual
theorem xZbr : ∀ (t : GT), ∀ e ∈ t.fl, (∃ o, e.Test = oT o) ∧ (lfG e = false → e.Test = [])
  | .leaf neg v ty o, e, he => by
    rw [GT.fl, List.mem_singleton] at he
    subst he
    exact ⟨⟨o, rfl⟩, fun h => by cases neg <;> simp [lfG, kL] at h⟩
  | .rep lo hi a, e, he => by
    rw [GT.fl] at he
    rcases List.mem_cons.1 he with rfl | he
    · exact ⟨⟨none, rfl⟩, fun _ => rfl⟩
    · exact xZbr a e he
  | .lst alt bs, e, he => by
    rw [GT.fl] at he
    rcases List.mem_cons.1 he with rfl | he
    · exact ⟨⟨none, rfl⟩, fun _ => rfl⟩
    · exact xZeq bs e he
theorem xZeq : ∀ (bs : List GT), ∀ e ∈ GT.fls bs, (∃ o, e.Test = oT o) ∧ (lfG e = false → e.Test = [])
  | [], e, he => by rw [GT.fls] at he; cases he
  | b :: bs, e, he => by
    rw [GT.fls] at he
    rcases List.mem_append.1 he with he | he
    · exact xZbr b e he
    · exact xZeq bs e he
end
section
variable {body y6 : List xZ0} {y2 y4 : Int} {y3 : List UInt8} {y5 : List xZ2} {y7 : A40 (A40 Bool)}
theorem xZfL (hs : small y5) {at_ : Nat} {e : xZ0} (he : body[at_]? = some e) : W (fun N => xZk N (at_ : Int) body y2 y3 y4 y5 y6 y7) (· = ((fnd e.Type_ y5).1, (fnd e.Type_ y5).2, body, y2, y3, y4, y5, y6, y7)) := by
  simp only [xZk, ix_nat', he, Option.bind_some]
  refine W.call (N := fun N => N) (xZaQ y5 e.Type_ hs) ?_
  rintro _ rfl
  simp only [W.ret]
theorem xZfR (hs : small y5) (name : List UInt8) : (fnd name y5).1.Fields.length ≤ 1000 := by
  have := (xZiK name hs).2 _ (List.mem_singleton.2 rfl)
  omega
theorem xZm6 (hs : small y5) (hlen : body.length ≤ 40) {at_ fi : Nat} {e ef : xZ0} (he : body[at_]? = some e) (hf : body[fi]? = some ef) : W (fun N => xZ1q N (at_ : Int) (fi : Int) body y2 y3 y4 y5 y6 y7) (fun r => r.2 = (body, y2, y3, y4, y5, y6, y7) ∧ (r.1 = 0 → ∀ (j : Nat) m, j < at_ → body[j]? = some m → lfG m = true → m.Var ≠ e.Var)) := by
  have hat : at_ < body.length := (List.getElem?_eq_some_iff.1 he).1
  simp only [xZ1q, ix_nat', he, Option.bind_some, W.gd, xZ16, Int.toNat_natCast]
  refine ⟨by omega, by omega, ?_⟩
  have hl : (List.take at_ body).length = at_ := by rw [List.length_take]; omega
  refine wf1 (l := List.take at_ body) (fun pre => ∀ m ∈ pre, lfG m = true → m.Var ≠ e.Var) [] rfl rfl (by omega) (by simp) ?_ ?_
  · intro F pre m rest h1 k1 k2 k3 hp hn
    simp only [xZW, k1, k2, Option.bind_some, cond_true, xZcO, k3, xZ2r]
    have hn' : lfG m = false ∨ m.Var ≠ e.Var → ∀ x ∈ pre ++ [m], lfG x = true → x.Var ≠ e.Var := by
      intro hm x hx hxl
      rcases List.mem_append.1 hx with hx | hx
      · exact hp x hx hxl
      · rw [List.mem_singleton.1 hx] at hxl ⊢
        rcases hm with hm | hm
        · rw [hm] at hxl; cases hxl
        · exact hm
    refine W.cond.2 ⟨fun hlf => W.cond.2 ⟨fun hv => W.ret.2 ⟨rfl, fun h => by cases h⟩, fun hv => hn (hn' (.inr (by simpa using hv)))⟩, fun hlf => hn (hn' (.inl hlf))⟩
  · intro F k1 hp
    simp only [xZW, k1, cond_false]
    have fin : ∀ (j : Nat) m, j < at_ → body[j]? = some m → lfG m = true → m.Var ≠ e.Var := fun j m hj hm hl => hp m (by
      refine List.mem_of_getElem? (i := j) ?_
      rw [List.getElem?_take_of_lt hj]; exact hm) hl
    refine W.call (N := fun p : Nat × Nat => p.1) (xZfL hs he) ?_
    rintro _ rfl
    refine W.cond.2 ⟨fun _ => W.ret.2 ⟨rfl, fun h => by cases h⟩, fun _ => W.cond.2 ⟨fun _ => W.ret.2 ⟨rfl, fun _ => fin⟩, fun _ => ?_⟩⟩
    refine W.call (N := fun p : Nat × Nat => p.1) (xZfL hs hf) ?_
    rintro _ rfl
    refine W.call (N := fun p : Nat × Nat => p.1) (xZ4f _ _ (xZfR hs _)) ?_
    rintro _ rfl
    refine W.call (N := fun p : Nat × Nat => p.1) (xZ4f _ _ (xZfR hs _)) ?_
    rintro _ rfl
    refine W.cond.2 ⟨fun _ => W.ret.2 ⟨rfl, fun h => by cases h⟩, fun _ => W.cond.2 ⟨fun _ => W.ret.2 ⟨rfl, fun h => by cases h⟩, fun _ => W.ret.2 ⟨rfl, fun _ => fin⟩⟩⟩
def OfOk (body : List xZ0) (Y : Nat → Nat → Bool) (at_ : Nat) (n : xZ1) : Prop := n.Kind = 8 → ∃ (f : Nat) (m : xZ0), body[f]? = some m ∧ isA m n.Var = true ∧ Y at_ f = true
theorem xZgI (hs : small y5) (hlen : body.length ≤ 40) {at_ : Nat} {e : xZ0} (he : body[at_]? = some e) (n : xZ1) : W (fun N => xZd N (at_ : Int) n body y2 y3 y4 y5 y6 y7) (fun r => r.2.2 = (body, y2, y3, y4, y5, y6, y7) ∧ (r.2.1 = 0 → OfOk body (gm y7) at_ n)) := by
  have hat : at_ < body.length := (List.getElem?_eq_some_iff.1 he).1
  have hat' : at_ < 40 := by omega
  simp only [xZd]
  refine W.cond.2 ⟨fun hk => ?_, fun hk => ?_⟩
  · refine W.call (N := fun N => N) (w_id body n.Var (by omega)) ?_
    rintro r (⟨rfl, _⟩ | ⟨rfl, h⟩)
    · simp only [show ltB (-1) 0 = true from rfl, cond_true, W.ret]
      exact ⟨trivial, fun h => by cases h⟩
    · obtain ⟨i1, m, i2, i3⟩ := xZiZ body h
      have hid : idn n.Var body < 40 := by omega
      simp only [show ltB (idn n.Var body : Int) 0 = false from xZ19.2 (by omega), cond_false, show leB 0 (at_ : Int) = true from xZ16.2 (by omega), show ltB (at_ : Int) 40 = true from xZi.2 (by omega), show leB 0 (idn n.Var body : Int) = true from xZ16.2 (by omega), show ltB (idn n.Var body : Int) 40 = true from xZi.2 (by omega), xZ2r, ix_l y7 hat' (A40.c false), Option.bind_some, ix_l _ hid false]
      refine W.cond.2 ⟨fun _ => W.ret.2 ⟨rfl, fun h => by cases h⟩, fun hy => ?_⟩
      refine W.call (N := fun N => N) (xZfL hs i2) ?_
      rintro _ rfl
      refine W.call (N := fun N => N) (xZ4f _ _ (xZfR hs _)) ?_
      rintro _ rfl
      have ok : OfOk body (gm y7) at_ n := fun _ => ⟨_, m, i2, i3, by simpa [gm, gb] using hy⟩
      refine W.cond.2 ⟨fun _ => W.ret.2 ⟨rfl, fun h => by cases h⟩, fun _ => W.ret.2 ⟨rfl, fun _ => ok⟩⟩
  · have ok : OfOk body (gm y7) at_ n := fun h => by rw [h] at hk; cases hk
    refine W.call (N := fun N => N) (xZfL hs he) ?_
    rintro _ rfl
    refine W.call (N := fun N => N) (xZ4f _ _ (xZfR hs _)) ?_
    rintro _ rfl
    refine W.cond.2 ⟨fun _ => W.ret.2 ⟨rfl, fun h => by cases h⟩, fun _ => W.ret.2 ⟨rfl, fun _ => ok⟩⟩
def PSd (body y6 : List xZ0) (y2 y4 : Int) (y3 : List UInt8) (y5 : List xZ2) (y7 : A40 (A40 Bool)) (at_ : Nat) (e : xZ0) (s : TS) : Prop := ∀ pre post, e.Test = pre ++ (s.fl ++ post) →
  W (fun N => (xZN N) (at_ : Int) (pre.length : Int) body y2 y3 y4 y5 y6 y7) (fun r => r.2.1 = ((pre.length + s.fl.length : Nat) : Int) ∧ r.2.2 = (body, y2, y3, y4, y5, y6, y7))
theorem xZnD (hs : small y5) (hlen : body.length ≤ 40) {at_ : Nat} {e : xZ0} (he : body[at_]? = some e) (ht : e.Test.length ≤ 40) (a : TU) : PSd body y6 y2 y4 y3 y5 y7 at_ e (.u a) := by
  intro pre post h
  refine W.shift ?_
  show W (fun N => xZT N (xZN N) _ _ _ _ _ _ _ _ _) _
  have hk : ix e.Test (pre.length : Int) = some a.nd := by rw [ix_nat', h]; simp [TS.fl]
  have hpl : pre.length < e.Test.length := by rw [h]; simp [TS.fl]
  simp only [xZT, ix_nat' body, he, Option.bind_some, hk]
  have hl : (TS.u a).fl.length = 1 := rfl
  rw [hl]
  cases a with
  | own n =>
    simp only [TU.nd, show ((7 : Int) == 9) = false from rfl, show ((7 : Int) == 7) = true from rfl, cond_false, cond_true]
    refine W.call (N := fun N => N) (xZgI hs hlen he _) ?_
    rintro r ⟨h1, _⟩
    simp only [W.gd, xZe, W.ret]
    exact ⟨by omega, by omega, by rw [← h1]⟩
  | of v n =>
    simp only [TU.nd, show ((8 : Int) == 9) = false from rfl, show ((8 : Int) == 7) = false from rfl, show ((8 : Int) == 8) = true from rfl, cond_false, cond_true]
    refine W.call (N := fun N => N) (xZgI hs hlen he _) ?_
    rintro r ⟨h1, _⟩
    simp only [W.gd, xZe, W.ret]
    exact ⟨by omega, by omega, by rw [← h1]⟩
  | lit v =>
    simp only [TU.nd, show ((9 : Int) == 9) = true from rfl, cond_true, W.gd, xZe, W.ret]
    exact ⟨by omega, by omega, trivial⟩
theorem xZj1 (hs : small y5) (hlen : body.length ≤ 40) {at_ : Nat} {e : xZ0} (he : body[at_]? = some e) (ht : e.Test.length ≤ 40) : ∀ s : TS, PSd body y6 y2 y4 y3 y5 y7 at_ e s
  | .u a => xZnD hs hlen he ht a
  | .op k s a => by
    intro pre post h
    refine W.shift ?_
    show W (fun N => xZT N (xZN N) _ _ _ _ _ _ _ _ _) _
    have hk : ix e.Test (pre.length : Int) = some (bn (if k then 6 else 5)) := by rw [ix_nat', h]; simp [TS.fl]
    have hpl : pre.length < e.Test.length := by rw [h]; simp [TS.fl]
    simp only [xZT, ix_nat' body, he, Option.bind_some, hk]
    have h1 : e.Test = (pre ++ [bn (if k then 6 else 5)]) ++ (s.fl ++ (a.nd :: post)) := by rw [h]; simp [TS.fl]
    have h2 : e.Test = (pre ++ [bn (if k then 6 else 5)] ++ s.fl) ++ ((TS.u a).fl ++ post) := by rw [h]; simp [TS.fl]
    have c1 := xZj1 hs hlen he ht s _ _ h1
    have c2 := xZnD hs hlen he ht a (y6 := y6) (y2 := y2) (y4 := y4) (y3 := y3) (y7 := y7) _ _ h2
    have e1 : ((pre ++ [bn (if k then 6 else 5)]).length : Int) = (pre.length : Int) + 1 := by simp
    have e2 : ((pre ++ [bn (if k then 6 else 5)] ++ s.fl).length : Int) = (((pre ++ [bn (if k then 6 else 5)]).length + s.fl.length : Nat) : Int) := by rw [List.length_append]
    rw [e1] at c1
    rw [e2] at c2
    have hl : (TS.op k s a).fl.length = 1 + s.fl.length + 1 := by simp [TS.fl]; omega
    have e3 : ((bn (if k then 6 else 5)).Kind == 9) = false := by cases k <;> rfl
    have e4 : ((bn (if k then 6 else 5)).Kind == 7) = false := by cases k <;> rfl
    have e5 : ((bn (if k then 6 else 5)).Kind == 8) = false := by cases k <;> rfl
    simp only [e3, e4, e5, cond_false, W.gd, xZe]
    refine ⟨by omega, W.bind c1 ?_⟩
    rintro ⟨r0, r1, r2⟩ ⟨q1, q2⟩
    dsimp only at q1 q2
    subst q2
    rw [q1]
    refine W.bind c2 ?_
    rintro ⟨z0, z1, z2⟩ ⟨q3, q4⟩
    dsimp only at q3 q4
    subst q4
    refine W.call (N := fun N => N) (w_sum _ _) fun _ _ => W.ret.2 ⟨?_, rfl⟩
    rw [q3, hl]; simp [TS.fl]; omega
theorem xZoW (hs : small y5) (hlen : body.length ≤ 40) {at_ : Nat} {e : xZ0} (he : body[at_]? = some e) (ht : e.Test.length ≤ 40) (hc : cl e.Test) {pre post : List xZ1} {x : xZ1} (h : e.Test = pre ++ x :: post) : W (fun N => xZ1F N (at_ : Int) (pre.length : Int) body y2 y3 y4 y5 y6 y7) (fun r => r.2 = (body, y2, y3, y4, y5, y6, y7)) := by
  have hk : ix e.Test (pre.length : Int) = some x := by rw [ix_nat', h]; simp
  have hpl : pre.length < e.Test.length := by rw [h]; simp
  obtain ⟨c4, c5⟩ := cl_at (pre := pre) (by rw [← h]; exact hc)
  simp only [xZ1F, ix_nat' body, he, Option.bind_some, hk]
  have four : x.Kind = 4 → W (fun N => (xZN N (at_ : Int) ((pre.length : Int) + 1) body y2 y3 y4 y5 y6 y7).bind fun side => (xZb N (at_ : Int) side.2.1 side.2.2.1 side.2.2.2.1 side.2.2.2.2.1 side.2.2.2.2.2.1 side.2.2.2.2.2.2.1 side.2.2.2.2.2.2.2.1 side.2.2.2.2.2.2.2.2).bind fun side3 => (xZ3f N x.Op side.1 side3.1).bind fun fits => some (fits, side3.2.2.1, side3.2.2.2.1, side3.2.2.2.2.1, side3.2.2.2.2.2.1, side3.2.2.2.2.2.2.1, side3.2.2.2.2.2.2.2.1, side3.2.2.2.2.2.2.2.2)) (fun r => r.2 = (body, y2, y3, y4, y5, y6, y7)) := by
    intro hx
    obtain ⟨a, b, r, hp⟩ := c4 hx
    have h1 : e.Test = (pre ++ [x]) ++ (a.fl ++ (b.fl ++ r)) := by rw [h, hp]; simp
    have h2 : e.Test = (pre ++ [x] ++ a.fl) ++ (b.fl ++ r) := by rw [h, hp]; simp
    have q1 := xZj1 hs hlen he ht a (y6 := y6) (y2 := y2) (y4 := y4) (y3 := y3) (y7 := y7) _ _ h1
    have q2 := xZj1 hs hlen he ht b (y6 := y6) (y2 := y2) (y4 := y4) (y3 := y3) (y7 := y7) _ _ h2
    have e1 : ((pre ++ [x]).length : Int) = (pre.length : Int) + 1 := by simp
    have e2 : ((pre ++ [x] ++ a.fl).length : Int) = (((pre ++ [x]).length + a.fl.length : Nat) : Int) := by rw [List.length_append]
    rw [e1] at q1
    rw [e2] at q2
    refine W.bind q1 ?_
    rintro ⟨r0, r1, r2⟩ ⟨q3, q4⟩
    dsimp only at q3 q4
    subst q4
    rw [q3]
    refine W.bind q2 ?_
    rintro ⟨z0, z1, z2⟩ ⟨q5, q6⟩
    dsimp only at q5 q6
    subst q6
    exact W.call (N := fun N => N) (xZnh _ _ _) fun _ _ => W.ret.2 rfl
  have five : x.Kind = 5 ∨ x.Kind = 6 → W (fun N => (xZb N (at_ : Int) (pre.length : Int) body y2 y3 y4 y5 y6 y7).bind fun side => some ((side.1 != 0), side.2.2.1, side.2.2.2.1, side.2.2.2.2.1, side.2.2.2.2.2.1, side.2.2.2.2.2.2.1, side.2.2.2.2.2.2.2.1, side.2.2.2.2.2.2.2.2)) (fun r => r.2 = (body, y2, y3, y4, y5, y6, y7)) := by
    intro hx
    obtain ⟨s, r, hp⟩ := c5 hx
    have q1 := xZj1 hs hlen he ht s (y6 := y6) (y2 := y2) (y4 := y4) (y3 := y3) (y7 := y7) pre r (by rw [h, hp])
    refine W.bind q1 ?_
    rintro ⟨r0, r1, r2⟩ ⟨q3, q4⟩
    dsimp only at q3 q4
    subst q4
    exact W.ret.2 rfl
  refine W.cond.2 ⟨fun k5 => W.cond.2 ⟨fun k5' => five (.inl (by simpa using k5)), fun k5' => by rw [k5] at k5'; cases k5'⟩, fun k5 => W.cond.2 ⟨fun k6 => five (.inr (by simpa using k6)), fun k6 => W.cond.2 ⟨fun k4 => ?_, fun k4 => W.ret.2 rfl⟩⟩⟩
  simp only [W.gd, xZe]
  exact ⟨by omega, four (by simpa using k4)⟩
theorem xZoy (hs : small y5) (hlen : body.length ≤ 40) {at_ : Nat} {e : xZ0} (he : body[at_]? = some e) (ht : e.Test.length ≤ 40) (hc : cl e.Test) : W (fun N => xZ1B N (at_ : Int) body y2 y3 y4 y5 y6 y7) (fun r => r.2 = (body, y2, y3, y4, y5, y6, y7) ∧ (r.1 = 0 → ∀ n ∈ e.Test, OfOk body (gm y7) at_ n) ∧ (r.1 ≠ 0 → e.Test ≠ [])) := by
  simp only [xZ1B, ix_nat', he, Option.bind_some]
  refine W.lp8 (N := fun N => N) (P := fun x3 a b c d f g h => body = a ∧ y2 = b ∧ y3 = c ∧ y4 = d ∧ y5 = f ∧ y6 = g ∧ y7 = h ∧ ∃ pre rest, e.Test = pre ++ rest ∧ x3 = (pre.length : Int) ∧ ∀ n ∈ pre, OfOk body (gm y7) at_ n) (m := fun x3 _ _ _ _ _ _ _ => e.Test.length - x3.toNat)
    ⟨rfl, rfl, rfl, rfl, rfl, rfl, rfl, [], e.Test, rfl, rfl, by simp⟩ ?_
  rintro F x3 a b c d f g h ⟨rfl, rfl, rfl, rfl, rfl, rfl, rfl, pre, rest, h1, rfl, h2⟩ next
  simp only [xZ21]
  cases rest with
  | cons n rest =>
    have hpl : pre.length < e.Test.length := by rw [h1]; simp
    have hne : e.Test ≠ [] := by rw [h1]; simp
    have hix : ix e.Test (pre.length : Int) = some n := by rw [ix_nat', h1]; simp
    simp only [show ltB (pre.length : Int) (e.Test.length : Int) = true from xZi.2 (by omega), cond_true, hix, Option.bind_some]
    have go : OfOk body (gm y7) at_ n → W (fun p => F p ((pre.length : Int) + 1) body y2 y3 y4 y5 y6 y7) (fun r => r.2 = (body, y2, y3, y4, y5, y6, y7) ∧ (r.1 = 0 → ∀ n ∈ e.Test, OfOk body (gm y7) at_ n) ∧ (r.1 ≠ 0 → e.Test ≠ [])) := by
      intro hok
      refine next _ _ _ _ _ _ _ _ ⟨rfl, rfl, rfl, rfl, rfl, rfl, rfl, pre ++ [n], rest, by rw [h1]; simp, by simp, ?_⟩ (by omega)
      intro z hz
      rcases List.mem_append.1 hz with hz | hz
      · exact h2 z hz
      · rw [List.mem_singleton.1 hz]; exact hok
    have fld : W (fun p : Nat × Nat => (xZd p.1 (at_ : Int) n body y2 y3 y4 y5 y6 y7).bind fun fiel => bif fiel.2.1 != 0 then some (fiel.2.1, fiel.2.2.1, fiel.2.2.2.1, fiel.2.2.2.2.1, fiel.2.2.2.2.2.1, fiel.2.2.2.2.2.2.1, fiel.2.2.2.2.2.2.2.1, fiel.2.2.2.2.2.2.2.2) else gd (i64b ((pre.length : Int) + 1)) (F p ((pre.length : Int) + 1) fiel.2.2.1 fiel.2.2.2.1 fiel.2.2.2.2.1 fiel.2.2.2.2.2.1 fiel.2.2.2.2.2.2.1 fiel.2.2.2.2.2.2.2.1 fiel.2.2.2.2.2.2.2.2)) (fun r => r.2 = (body, y2, y3, y4, y5, y6, y7) ∧ (r.1 = 0 → ∀ n ∈ e.Test, OfOk body (gm y7) at_ n) ∧ (r.1 ≠ 0 → e.Test ≠ [])) := by
      refine W.call (N := fun p : Nat × Nat => p.1) (xZgI hs hlen he n) ?_
      rintro ⟨r0, r1, r2⟩ ⟨q1, q2⟩
      dsimp only at q1 q2
      subst q1
      refine W.cond.2 ⟨fun hz => W.ret.2 ⟨rfl, fun h0 => ?_, fun _ => hne⟩, fun hz => ?_⟩
      · simp only at h0; rw [h0] at hz; cases hz
      · simp only [W.gd, xZe]
        exact ⟨by omega, go (q2 (by simpa using hz))⟩
    refine W.cond.2 ⟨fun k7 => W.cond.2 ⟨fun k8 => ?_, fun k8 => fld⟩, fun k7 => fld⟩
    simp only [W.gd, xZe]
    exact ⟨by omega, go fun h8 => by rw [h8] at k8; cases k8⟩
  | nil =>
    rw [List.append_nil] at h1
    subst h1
    simp only [show ltB (e.Test.length : Int) (e.Test.length : Int) = false from xZ19.2 (by omega), cond_false]
    refine W.lp8 (N := fun p : Nat × Nat => p.1) (P := fun x3 a b c d f g h => body = a ∧ y2 = b ∧ y3 = c ∧ y4 = d ∧ y5 = f ∧ y6 = g ∧ y7 = h ∧ ∃ pre rest, e.Test = pre ++ rest ∧ x3 = (pre.length : Int)) (m := fun x3 _ _ _ _ _ _ _ => e.Test.length - x3.toNat)
      ⟨rfl, rfl, rfl, rfl, rfl, rfl, rfl, [], e.Test, rfl, rfl⟩ ?_
    rintro F2 x3 a b c d f g h ⟨rfl, rfl, rfl, rfl, rfl, rfl, rfl, pre, rest, h1, rfl⟩ next2
    simp only [xZ25]
    cases rest with
    | nil =>
      rw [List.append_nil] at h1
      simp only [show ltB (pre.length : Int) (e.Test.length : Int) = false from xZ19.2 (by rw [h1]; omega), cond_false, W.ret]
      exact ⟨trivial, fun _ => h2, fun h => absurd rfl h⟩
    | cons n rest =>
      have hpl : pre.length < e.Test.length := by rw [h1]; simp
      simp only [show ltB (pre.length : Int) (e.Test.length : Int) = true from xZi.2 (by omega), cond_true]
      refine W.call (N := fun p : (Nat × Nat) × Nat => p.1.1) (xZoW hs hlen he ht hc h1) ?_
      rintro ⟨r0, r1⟩ q1
      dsimp only at q1
      subst q1
      refine W.cond.2 ⟨fun _ => W.ret.2 ⟨rfl, fun h => (by cases h), fun _ => by rw [h1]; simp⟩, fun _ => ?_⟩
      simp only [W.gd, xZe]
      exact ⟨by omega, next2 _ _ _ _ _ _ _ _ ⟨rfl, rfl, rfl, rfl, rfl, rfl, rfl, pre ++ [n], rest, by rw [h1]; simp, by simp⟩ (by omega)⟩
end
end
def A0 : Nat → Bool := fun _ => false
def Y0 : Nat → Nat → Bool := fun _ _ => false
theorem xZp7 {t : GT} (ht : t.ok 0) {body : List xZ0} (hb : body = t.fl) (hlen : body.length ≤ 40) : W (fun N => xZ7E N body) (fun r => r.1 = body ∧ FY (body := body) t 0 A0 Y0 (gm r.2)) := by
  simp only [xZ7E]
  have h := pf (body := body) hlen t 0 ht [] [] (A40.c false) (A40.c (A40.c false)) (by rw [hb]; simp)
  refine W.call (f := fun N => (xZx N) 0 (A40.c false) body (A40.c (A40.c false))) (N := fun N => N) h ?_
  rintro r ⟨_, _, h3, h4⟩
  refine W.ret.2 ⟨h3, ?_⟩
  rw [gb_c, gm_c] at h4
  exact h4
theorem xZnz (l : List xZ0) (hl : l.length ≤ 1000) : W (fun N => xZz N l) (fun r => (∀ n ∈ l, lfG n = false) ∨ ∃ (f : Nat) (m : xZ0), r = (f : Int) ∧ l[f]? = some m) := by
  simp only [xZz]
  refine wf1 (l := l) (fun pre => ∀ n ∈ pre, lfG n = false) [] rfl rfl (by omega) (by simp) ?_ ?_
  · intro F pre e rest h1 k1 k2 k3 hp hn
    simp only [xZq, k1, k2, Option.bind_some, cond_true, xZcO, k3, xZ2r]
    refine W.cond.2 ⟨fun _ => W.ret.2 (.inr ⟨pre.length, e, rfl, by rw [h1]; simp⟩), fun hf => hn fun n h => ?_⟩
    rcases List.mem_append.1 h with h | h
    · exact hp n h
    · rw [List.mem_singleton.1 h]; exact hf
  · intro F k1 hp
    simp only [xZq, k1, cond_false, W.ret]
    exact .inl hp
structure RightP (body : List xZ0) (t : GT) : Prop where
  un : ∀ (i j : Nat) (m n : xZ0), i < j → body[i]? = some m → body[j]? = some n → lfG m = true → lfG n = true → m.Var ≠ n.Var
  of : ∃ Y, FY (body := body) t 0 A0 Y0 Y ∧ ∀ (i : Nat) (e : xZ0), body[i]? = some e → ∀ n ∈ e.Test, OfOk body Y i n
  ng : ∀ (i : Nat) (n : xZ0), body[i]? = some n → n.Kind = 5 → t.hF 0 i = false
def PC (body : List xZ0) (t : GT) (r : Int × Int) : Prop := (r.1 ≠ 0 → r.2 = 0 ∨ ∃ (i : Nat) (n : xZ0), r.2 = (i : Int) ∧ body[i]? = some n ∧ 4 ≤ n.Kind) ∧ (r.1 = 0 → RightP body t)
theorem lfG4 {n : xZ0} (h : lfG n = true) : 4 ≤ n.Kind := by
  simp only [lfG, Bool.or_eq_true, beq_iff_eq] at h; omega
theorem xZmT {p : xZ6} {types : List xZ2} (hs : small types) {t : GT} (ht : t.ok 0) (hb : p.Body = t.fl) (hlen : p.Body.length ≤ 40) (hck : chkG p = 0) (lt : ∀ n ∈ p.Body, n.Test.length ≤ 40) : W (fun N => xZ41 N p types) (PC p.Body t) := by
  simp only [xZ41, xZ8j]
  refine W.call (N := fun N => N) (xZd5 p) ?_
  rintro _ rfl
  simp only [hck, show ((0 : Int) != 0) = false from rfl, cond_false]
  refine W.call (N := fun N => N) (xZcR types hs) fun c _ => ?_
  refine W.cond.2 ⟨fun _ => W.ret.2 ⟨fun _ => .inl rfl, fun h => by cases h⟩, fun _ => ?_⟩
  refine W.call (N := fun N => N) (xZp7 ht hb hlen) ?_
  rintro ⟨b0, Y⟩ ⟨e1, hY⟩
  dsimp only at e1 hY
  subst e1
  refine W.call (N := fun N => N) (xZnz p.Body (by omega)) fun fi hfi => ?_
  refine W.lp8 (N := fun N => N) (P := fun x3 a b c d f g h => p.Body = a ∧ p.Within = b ∧ p.By = c ∧ p.Mode = d ∧ types = f ∧ p.Body = g ∧ Y = h ∧ ∃ n : Nat, x3 = (n : Int) ∧ n ≤ p.Body.length ∧ ∀ (i j : Nat) (m e : xZ0), i < j → j < n → p.Body[i]? = some m → p.Body[j]? = some e → lfG m = true → lfG e = true → m.Var ≠ e.Var) (m := fun x3 _ _ _ _ _ _ _ => p.Body.length - x3.toNat)
    ⟨rfl, rfl, rfl, rfl, rfl, rfl, rfl, 0, rfl, by omega, fun i j m e h1 h2 => by omega⟩ ?_
  rintro F x3 a b c d f g h ⟨rfl, rfl, rfl, rfl, rfl, rfl, rfl, n, rfl, hn, hu⟩ next
  simp only [xZ6E]
  by_cases hlt : n < p.Body.length
  · have he : p.Body[n]? = some p.Body[n] := by simp [hlt]
    generalize p.Body[n] = e at he
    simp only [show ltB (n : Int) (p.Body.length : Int) = true from xZi.2 (by omega), cond_true, ix_nat', he, Option.bind_some, xZcO]
    have go : (∀ (i : Nat) (m : xZ0), i < n → p.Body[i]? = some m → lfG m = true → lfG e = true → m.Var ≠ e.Var) → W (fun q => F q ((n : Int) + 1) p.Body p.Within p.By p.Mode types p.Body Y) (PC p.Body t) := by
      intro hv
      refine next _ _ _ _ _ _ _ _ ⟨rfl, rfl, rfl, rfl, rfl, rfl, rfl, n + 1, by omega, by omega, fun i j m e' h1 h2 h3 h4 h5 h6 => ?_⟩ (by omega)
      rcases Nat.lt_or_ge j n with hj | hj
      · exact hu i j m e' h1 hj h3 h4 h5 h6
      · have : j = n := by omega
        subst this
        rw [he] at h4
        cases h4
        exact hv i m h1 h3 h5 h6
    refine W.cond.2 ⟨fun hl => ?_, fun hl => ?_⟩
    · simp only [W.gd, xZe]
      have hl' : lfG e = false := by simpa using hl
      exact ⟨by omega, go fun i m _ _ _ h => by rw [hl'] at h; cases h⟩
    · have hl' : lfG e = true := by simpa using hl
      obtain ⟨fn, fm, rfl, hfm⟩ : ∃ (fn : Nat) (fm : xZ0), fi = (fn : Int) ∧ p.Body[fn]? = some fm := by
        rcases hfi with hfi | hfi
        · have := hfi e (List.mem_of_getElem? he)
          rw [hl'] at this; cases this
        · exact hfi
      refine W.call (N := fun q : Nat × Nat => q.1) (xZm6 hs hlen he hfm) ?_
      rintro ⟨r0, r1⟩ ⟨q1, q2⟩
      dsimp only at q1 q2
      subst q1
      refine W.cond.2 ⟨fun hz => W.ret.2 ⟨fun _ => .inr ⟨n, e, rfl, he, lfG4 hl'⟩, fun h0 => ?_⟩, fun hz => ?_⟩
      · simp only at h0; rw [h0] at hz; cases hz
      · simp only [W.gd, xZe]
        exact ⟨by omega, go fun i m h1 h2 h3 _ => q2 (by simpa using hz) i m h1 h2 h3⟩
  · have hnl : n = p.Body.length := by omega
    subst hnl
    have un : ∀ (i j : Nat) (m e : xZ0), i < j → p.Body[i]? = some m → p.Body[j]? = some e → lfG m = true → lfG e = true → m.Var ≠ e.Var := fun i j m e h1 h2 h3 => hu i j m e h1 (List.getElem?_eq_some_iff.1 h3).1 h2 h3
    simp only [show ltB (p.Body.length : Int) (p.Body.length : Int) = false from xZ19.2 (by omega), cond_false]
    refine W.lp8 (N := fun q : Nat × Nat => q.1) (P := fun x3 a b c d f g h => p.Body = a ∧ p.Within = b ∧ p.By = c ∧ p.Mode = d ∧ types = f ∧ p.Body = g ∧ Y = h ∧ ∃ n : Nat, x3 = (n : Int) ∧ n ≤ p.Body.length ∧ ∀ (i : Nat) (e : xZ0), i < n → p.Body[i]? = some e → ∀ z ∈ e.Test, OfOk p.Body (gm Y) i z) (m := fun x3 _ _ _ _ _ _ _ => p.Body.length - x3.toNat)
      ⟨rfl, rfl, rfl, rfl, rfl, rfl, rfl, 0, rfl, by omega, fun i e h => by omega⟩ ?_
    rintro F2 x3 a b c d f g h ⟨rfl, rfl, rfl, rfl, rfl, rfl, rfl, n, rfl, hn2, hof⟩ next2
    simp only [xZ6W]
    by_cases hlt : n < p.Body.length
    · have he : p.Body[n]? = some p.Body[n] := by simp [hlt]
      generalize p.Body[n] = e at he
      have hem : e ∈ t.fl := by rw [← hb]; exact List.mem_of_getElem? he
      obtain ⟨⟨o, ho⟩, hnl⟩ := xZbr t e hem
      simp only [show ltB (n : Int) (p.Body.length : Int) = true from xZi.2 (by omega), cond_true]
      refine W.call (N := fun q : (Nat × Nat) × Nat => q.1.1) (xZoy hs hlen he (lt e (List.mem_of_getElem? he)) (by rw [ho]; exact cl_o o)) ?_
      rintro ⟨r0, r1⟩ ⟨q1, q2, q3⟩
      dsimp only at q1 q2 q3
      subst q1
      refine W.cond.2 ⟨fun hz => W.ret.2 ⟨fun h0 => .inr ⟨n, e, rfl, he, ?_⟩, fun h0 => ?_⟩, fun hz => ?_⟩
      · cases hl : lfG e with
        | true => exact lfG4 hl
        | false => exact absurd (hnl hl) (q3 h0)
      · simp only at h0; rw [h0] at hz; cases hz
      · simp only [W.gd, xZe]
        refine ⟨by omega, next2 _ _ _ _ _ _ _ _ ⟨rfl, rfl, rfl, rfl, rfl, rfl, rfl, n + 1, by omega, by omega, fun i e' h1 h2 => ?_⟩ (by omega)⟩
        rcases Nat.lt_or_ge i n with hi | hi
        · exact hof i e' hi h2
        · have : i = n := by omega
          subst this
          rw [he] at h2
          cases h2
          exact q2 (by simpa using hz)
    · have hnl : n = p.Body.length := by omega
      subst hnl
      simp only [show ltB (p.Body.length : Int) (p.Body.length : Int) = false from xZ19.2 (by omega), cond_false]
      have hh := ph (body := p.Body) hlen t 0 ht [] [] (A40.c false) (by rw [hb]; simp)
      refine W.call (f := fun N => (xZo N) 0 p.Body (A40.c false)) (N := fun q : (Nat × Nat) × Nat => q.1.1) hh ?_
      rintro ⟨r0, r1, r2, r3, r4⟩ ⟨_, q2, _, _, _⟩
      dsimp only at q2
      refine wf1 (l := p.Body) (fun pre => ∀ (i : Nat) (n : xZ0), i < pre.length → p.Body[i]? = some n → n.Kind = 5 → t.hF 0 i = false) [] rfl rfl (by omega) (fun i n h => by simp at h) ?_ ?_
      · intro F3 pre e rest h1 k1 k2 k3 hp hn3
        have hpl : pre.length < 40 := by rw [h1] at hlen; simp at hlen; omega
        have he : p.Body[pre.length]? = some e := by rw [h1]; simp
        simp only [xZ4T, k1, k2, Option.bind_some, cond_true, k3, xZ2r, show leB 0 (pre.length : Int) = true from xZ16.2 (by omega), show ltB (pre.length : Int) 40 = true from xZi.2 (by omega), ix_l r1 hpl false, ix_l r4 hpl false]
        have go : (e.Kind = 5 → t.hF 0 pre.length = false) → ∀ (i : Nat) (n : xZ0), i < (pre ++ [e]).length → p.Body[i]? = some n → n.Kind = 5 → t.hF 0 i = false := by
          intro hk i n hi hin hn
          rw [List.length_append, List.length_singleton] at hi
          rcases Nat.lt_or_ge i pre.length with h | h
          · exact hp i n h hin hn
          · have : i = pre.length := by omega
            subst this
            rw [he] at hin
            cases hin
            exact hk hn
        refine W.cond.2 ⟨fun k5 => ?_, fun k5 => hn3 (go fun h => by rw [h] at k5; cases k5)⟩
        have k5' : e.Kind = 5 := by simpa using k5
        refine W.cond.2 ⟨fun _ => W.ret.2 ⟨fun _ => .inr ⟨pre.length, e, rfl, he, by omega⟩, fun h => by cases h⟩, fun ho => W.cond.2 ⟨fun _ => W.ret.2 ⟨fun _ => .inr ⟨pre.length, e, rfl, he, by omega⟩, fun h => by cases h⟩, fun _ => hn3 (go fun _ => ?_)⟩⟩
        have := congrFun q2 pre.length
        rw [show ([] : List xZ0).length = 0 from rfl] at this
        rw [← this]; exact ho
      · intro F3 k1 hp
        simp only [xZ4T, k1, cond_false]
        refine W.cond.2 ⟨fun _ => W.ret.2 ⟨fun _ => .inl rfl, fun h => by cases h⟩, fun _ => W.ret.2 ⟨fun h => absurd rfl h, fun _ => ⟨un, ⟨gm Y, hY, fun i e hie => hof i e (List.getElem?_eq_some_iff.1 hie).1 hie⟩, fun i n hin => hp i n (List.getElem?_eq_some_iff.1 hin).1 hin⟩⟩⟩
section
open Go Classical
mutual
theorem lf_at : ∀ (t : GT) (pre post : List xZ0) (body : List xZ0) (j : Nat), body = pre ++ (t.fl ++ post) → t.lf pre.length j → ∃ n, body[j]? = some n ∧ lfG n = true
  | .leaf neg v ty o, pre, post, body, j, hb, h => by
    rw [GT.lf] at h
    subst h
    exact ⟨⟨kL neg, 0, 0, 0, v, ty, oT o⟩, by rw [hb]; simp [GT.fl], by cases neg <;> rfl⟩
  | .rep lo hi a, pre, post, body, j, hb, h => by
    rw [GT.lf] at h
    refine lf_at a (pre ++ [⟨3, 1, lo, hi, [], [], []⟩]) post body j (by rw [hb]; simp [GT.fl]) ?_
    rw [List.length_append]; exact h
  | .lst alt bs, pre, post, body, j, hb, h => by
    rw [GT.lf] at h
    refine xZmt bs (pre ++ [⟨kA alt, (bs.length : Int), 0, 0, [], [], []⟩]) post body j (by rw [hb]; simp [GT.fl]) ?_
    rw [List.length_append]; exact h
theorem xZmt : ∀ (bs : List GT) (pre post : List xZ0) (body : List xZ0) (j : Nat), body = pre ++ (GT.fls bs ++ post) → GT.lfs bs pre.length j → ∃ n, body[j]? = some n ∧ lfG n = true
  | [], pre, post, body, j, hb, h => by rw [GT.lfs] at h; exact h.elim
  | b :: bs, pre, post, body, j, hb, h => by
    rw [GT.lfs] at h
    rw [GT.fls, List.append_assoc] at hb
    rcases h with h | h
    · exact lf_at b pre (GT.fls bs ++ post) body j hb h
    · refine xZmt bs (pre ++ b.fl) post body j (by rw [hb]; simp) ?_
      rw [List.length_append]; exact h
end
theorem var_u (a : TU) (h : a.nd.Var ≠ []) : a.nd.Kind = 8 := by cases a <;> simp [TU.nd] at h ⊢
theorem var_s : ∀ (s : TS), ∀ n ∈ s.fl, n.Var ≠ [] → n.Kind = 8
  | .u a, n, hn, h => by
    rw [TS.fl, List.mem_singleton] at hn
    subst hn; exact var_u a h
  | .op k s a, n, hn, h => by
    rw [TS.fl] at hn
    rcases List.mem_cons.1 hn with rfl | hn
    · exact absurd rfl h
    · rcases List.mem_append.1 hn with hn | hn
      · exact var_s s n hn h
      · rw [List.mem_singleton.1 hn] at h ⊢; exact var_u a h
theorem var_t : ∀ (t : TT), ∀ n ∈ t.fl, n.Var ≠ [] → n.Kind = 8
  | .or a b, n, hn, h => by
    rw [TT.fl] at hn
    rcases List.mem_cons.1 hn with rfl | hn
    · exact absurd rfl h
    · rcases List.mem_append.1 hn with hn | hn
      · exact var_t a n hn h
      · exact var_t b n hn h
  | .and a b, n, hn, h => by
    rw [TT.fl] at hn
    rcases List.mem_cons.1 hn with rfl | hn
    · exact absurd rfl h
    · rcases List.mem_append.1 hn with hn | hn
      · exact var_t a n hn h
      · exact var_t b n hn h
  | .not a, n, hn, h => by
    rw [TT.fl] at hn
    rcases List.mem_cons.1 hn with rfl | hn
    · exact absurd rfl h
    · exact var_t a n hn h
  | .test o a b, n, hn, h => by
    rw [TT.fl] at hn
    rcases List.mem_cons.1 hn with rfl | hn
    · exact absurd rfl h
    · rcases List.mem_append.1 hn with hn | hn
      · exact var_s a n hn h
      · exact var_s b n hn h
theorem var_o (o : Option TT) : ∀ n ∈ oT o, n.Var ≠ [] → n.Kind = 8 := by
  cases o with
  | none => intro n hn; cases hn
  | some t => exact var_t t
structure Wk (body : List xZ0) (l : List Int) : Prop where
  len : l.length ≤ 100
  node : ∀ (p : List Int) (j : Int) (q : List Int), l = p ++ j :: q → ∃ (jn : Nat) (n : xZ0), j = (jn : Int) ∧ body[jn]? = some n ∧ lfG n = true ∧ ∀ z ∈ n.Test, z.Var ≠ [] → psd body p z.Var
  fst : ∀ (j : Nat) (q : List Int) (n : xZ0), l = (j : Int) :: q → body[j]? = some n → n.Kind = 4
  un : ∀ (i j : Nat) (m n : xZ0), i ≠ j → body[i]? = some m → body[j]? = some n → lfG m = true → lfG n = true → m.Var ≠ n.Var
theorem xZkT {body : List xZ0} {t : GT} (ht : t.ok 0) (hb : body = t.fl) (hr : RightP body t) (cs : List Int) : Wk body (t.wk cs 0 s00).out := by
  obtain ⟨un, ⟨Y, hY, hof⟩, ng⟩ := hr
  have hb0 : body = [] ++ (t.fl ++ []) := by rw [hb]; simp
  obtain ⟨⟨new, g1, g2⟩, _⟩ := su (cs := cs) t 0 ht [] [] A0 s00 hb0 xZj6 (fun k hk => by cases hk)
  have g1 : (t.wk cs 0 s00).out = new := g1
  refine ⟨(wk_ok (cs := cs) t 0 s00 xZj6).2.2.1, fun p j q e => ?_, fun j q n e hn => ?_, fun i j m n hij h1 h2 h3 h4 => ?_⟩
  · rw [g1] at e
    obtain ⟨jn, q1, q2, q3⟩ := g2 p j q e
    have q3 : inv body (t.rw body 0 A0 jn) p := q3
    obtain ⟨n, hn, hl⟩ := lf_at t [] [] body jn hb0 q2
    refine ⟨jn, n, q1, hn, hl, fun z hz hv => ?_⟩
    obtain ⟨⟨o, ho⟩, _⟩ := xZbr t n (by rw [← hb]; exact List.mem_of_getElem? hn)
    obtain ⟨f, m, f1, f2, f3⟩ := hof jn n hn z hz (var_o o z (by rw [← ho]; exact hz) hv)
    rw [hY.2 jn q2] at f3
    obtain ⟨n', k1, k2⟩ := q3 f f3
    rw [f1] at k1
    cases k1
    simp only [isA, Bool.and_eq_true, beq_iff_eq] at f2
    rw [f2.2] at k2
    exact k2
  · obtain ⟨new', a, b, _⟩ := hd (cs := cs) t 0 ht 0 s00 xZj6
    have a : (t.wk cs 0 s00).out = new' := a
    rw [a] at e
    obtain ⟨jn, p1, p2⟩ := b _ _ e
    have : jn = j := by omega
    subst this
    rw [← a, g1] at e
    obtain ⟨jn2, q1, q2, _⟩ := g2 [] _ q e
    have : jn2 = jn := by omega
    subst this
    obtain ⟨n', hn', hl⟩ := lf_at t [] [] body jn2 hb0 q2
    rw [hn] at hn'
    cases hn'
    simp only [lfG, Bool.or_eq_true, beq_iff_eq] at hl
    rcases hl with hl | hl
    · exact hl
    · have := ng jn2 n hn hl
      rw [p2] at this; cases this
  · rcases Nat.lt_or_ge i j with h | h
    · exact un i j m n h h1 h2 h3 h4
    · exact fun e => un j i n m (by omega) h2 h1 h4 h3 e.symm
theorem xZov {p : xZ6} {choices : List Int} {t : GT} (hck : chkG p = 0) (ht : t.ok 0) (hb : p.Body = t.fl) (hlen : p.Body.length ≤ 1000) : W (fun N => xZ7L N p choices) (· = (t.wk choices 0 s00).out) := by
  have hb0 : p.Body = [] ++ (t.fl ++ []) := by rw [hb]; simp
  simp only [xZ7L]
  refine W.call (xZd5 p) ?_
  rintro _ rfl
  simp only [hck, show ((0 : Int) != 0) = false from rfl, cond_false]
  refine W.call (f := fun N => xZ2F N 0 p.Body choices 0 false) (p5 (body := p.Body) (cs := choices) hlen t 0 ht [] [] s00 xZj6 rfl hb0) ?_
  rintro r (⟨rfl, hz⟩ | rfl)
  · simp only [Sum.elim_inl, W.ret]; exact hz.symm
  · simp only [Sum.elim_inr, W.ret]; rfl
theorem xZmJ {body : List xZ0} {l : List Int} (h : Wk body l) (hlen : body.length ≤ 1000) (lt : ∀ n ∈ body, n.Test.length ≤ 40) : W (fun N => lp1 (xZ1S N l body) N 0) (· = true) := by
  have hl := h.len
  refine wf1 (l := l) (fun _ => True) [] rfl rfl (by omega) trivial ?_ ?_
  · intro F pre e rest h1 k1 k2 k3 _ hn
    obtain ⟨jn, n, rfl, b1, b2, _⟩ := h.node pre e rest h1
    have hj : jn < body.length := (List.getElem?_eq_some_iff.1 b1).1
    simp only [xZ1S, k1, k2, Option.bind_some, cond_true, show ltB (jn : Int) 0 = false from xZ19.2 (by omega), show leB (body.length : Int) (jn : Int) = false from xZjI.2 (by omega), cond_false, k3, xZ2r]
    exact hn trivial
  · intro F k1 _
    simp only [xZ1S, k1, cond_false]
    have rest : W (fun p : Nat × Nat => lp1 (xZ1m p.1 l body) p.1 0) (· = true) := by
      refine wf1 (l := l) (N := fun p : Nat × Nat => p.1) (fun _ => True) [] rfl rfl (by omega) trivial ?_ ?_
      rotate_left
      · intro F2 k1 _
        simp only [xZ1m, k1, cond_false]
        exact xZdS (fun p : (Nat × Nat) × Nat => p.1.1)
      intro F2 pre e rest h1 k1 k2 k3 _ hn
      obtain ⟨jn, n, rfl, b1, b2, b3⟩ := h.node pre _ rest h1
      have hpl : pre.length < l.length := by rw [h1]; simp
      simp only [xZ1m, k1, k2, Option.bind_some, cond_true, ix_nat' body, b1]
      -- the elements ahead
      have at_ : ∀ m : Nat, m < pre.length → ∃ (xn : Nat) (nx : xZ0), ix l (m : Int) = some (xn : Int) ∧ pre[m]? = some (xn : Int) ∧ body[xn]? = some nx ∧ lfG nx = true := by
        intro m hm
        have e1 : l[m]? = some pre[m] := by rw [h1, List.getElem?_append_left hm]; simp [hm]
        have e2 : l = pre.take m ++ pre[m] :: (pre.drop (m + 1) ++ (jn : Int) :: rest) := by
          rw [h1]
          have : pre = pre.take m ++ pre[m] :: pre.drop (m + 1) := by simp
          exact (congrArg (· ++ (jn : Int) :: rest) this).trans (by simp only [List.append_assoc, List.cons_append])
        obtain ⟨xn, nx, a1, a2, a3, _⟩ := h.node _ _ _ e2
        exact ⟨xn, nx, by rw [ix_nat', e1, a1], by rw [← a1]; simp [hm], a2, a3⟩
      have lst : W (fun q : (Nat × Nat) × Nat => lp1 (xZ2E q.1.1 l (pre.length : Int) body (F2 q)) q.1.1 0) (· = true) := by
        refine W.lp1 (N := fun q : (Nat × Nat) × Nat => q.1.1) (P := fun m => ∃ mm : Nat, m = (mm : Int) ∧ mm ≤ pre.length) (m := fun m => pre.length - m.toNat) ⟨0, rfl, by omega⟩ ?_
        rintro F4 m ⟨mm, rfl, hm⟩ next
        simp only [xZ2E]
        by_cases hlt : mm < pre.length
        · obtain ⟨xn, nx, x1, _, x2, x3⟩ := at_ mm hlt
          simp only [show ltB (mm : Int) (pre.length : Int) = true from xZi.2 (by omega), cond_true, x1, k2, Option.bind_some, ix_nat' body, x2, b1]
          have go : W (fun p => gd (i64b ((mm : Int) + 1)) (F4 p ((mm : Int) + 1))) (· = true) := by
            simp only [W.gd, xZe]
            exact ⟨by omega, next _ ⟨mm + 1, by omega, by omega⟩ (by omega)⟩
          refine W.cond.2 ⟨fun hne => W.cond.2 ⟨fun hv => ?_, fun _ => go⟩, fun _ => go⟩
          have hne' : xn ≠ jn := fun e => by subst e; simp at hne
          exact absurd (by simpa using hv) (h.un xn jn nx n hne' x2 b1 x3 b2)
        · simp only [show ltB (mm : Int) (pre.length : Int) = false from xZ19.2 (by omega), cond_false, W.gd, xZe]
          exact ⟨by omega, (hn trivial).lift⟩
      have htl : W (fun q : (Nat × Nat) × Nat => lp1 (xZ1W q.1.1 l (pre.length : Int) n.Test body (F2 q)) q.1.1 0) (· = true) := by
        have hbig : (n.Test.length : Int) ≤ 9223372036854775807 := by have := lt n (List.mem_of_getElem? b1); omega
        refine wf1 (l := n.Test) (N := fun q : (Nat × Nat) × Nat => q.1.1) (fun _ => True) [] rfl rfl hbig trivial ?_ ?_
        · intro F3 pt z rt ht1 j1 j2 j3 _ hn3
          simp only [xZ1W, j1, j2, Option.bind_some, cond_true, j3, xZ2r]
          refine W.cond.2 ⟨fun _ => hn3 trivial, fun hv => ?_⟩
          have hv' : z.Var ≠ [] := by simpa using hv
          obtain ⟨j, p1, nj, p2, p3⟩ := b3 z (by rw [ht1]; simp) hv'
          obtain ⟨mj, hmj, hpj⟩ := List.getElem_of_mem p1
          refine W.lp2 (N := fun q : ((Nat × Nat) × Nat) × Nat => q.1.1.1) (P := fun ps m => ∃ mm : Nat, m = (mm : Int) ∧ mm ≤ pre.length ∧ (ps = true ∨ ∀ (i xn : Nat) (nx : xZ0), i < mm → pre[i]? = some (xn : Int) → body[xn]? = some nx → isA nx z.Var = false)) (m := fun _ m => pre.length - m.toNat) ⟨0, rfl, by omega, .inr fun i xn nx hi => by omega⟩ ?_
          rintro F4 ps m ⟨mm, rfl, hm, hps⟩ next
          simp only [xZ3U]
          by_cases hlt : mm < pre.length
          · obtain ⟨xn, nx, x1, x4, x2, x3⟩ := at_ mm hlt
            simp only [show ltB (mm : Int) (pre.length : Int) = true from xZi.2 (by omega), cond_true, x1, j2, Option.bind_some, ix_nat' body, x2]
            have hno : isA nx z.Var = false → ps = false → ∀ (i xn : Nat) (nx : xZ0), i < mm + 1 → pre[i]? = some (xn : Int) → body[xn]? = some nx → isA nx z.Var = false := by
              intro hna hpf i xn' nx' hi e1 e2
              rcases Nat.lt_or_ge i mm with h' | h'
              · rcases hps with hps | hps
                · rw [hpf] at hps; cases hps
                · exact hps i xn' nx' h' e1 e2
              · have : i = mm := by omega
                subst this
                rw [x4] at e1
                have : xn = xn' := by
                  have := Option.some.inj e1; omega
                subst this
                rw [x2] at e2
                cases e2
                exact hna
            refine W.cond.2 ⟨fun hpt => ?_, fun hpf => W.cond.2 ⟨fun hvv => ?_, fun hvv => ?_⟩⟩
            · simp only [W.gd, xZe]
              exact ⟨by omega, next _ _ ⟨mm + 1, by omega, by omega, .inl rfl⟩ (by omega)⟩
            · simp only [W.gd, xZe]
              refine ⟨by omega, next _ _ ⟨mm + 1, by omega, by omega, ?_⟩ (by omega)⟩
              cases hk : (nx.Kind == 4) with
              | true => exact .inl rfl
              | false => exact .inr (hno (by simp [isA, hk]) hpf)
            · simp only [W.gd, xZe]
              exact ⟨by omega, next _ _ ⟨mm + 1, by omega, by omega, .inr (hno (by simp only [isA, hvv, Bool.and_false]) hpf)⟩ (by omega)⟩
          · simp only [show ltB (mm : Int) (pre.length : Int) = false from xZ19.2 (by omega), cond_false]
            refine W.cond.2 ⟨fun hpf => ?_, fun _ => ?_⟩
            · rcases hps with hps | hps
              · rw [hps] at hpf; cases hpf
              · have := hps mj j nj (by omega) (by rw [List.getElem?_eq_getElem hmj, hpj]) p2
                rw [this] at p3; cases p3
            · simp only [j3, xZ2r]
              exact (hn3 trivial).lift
        · intro F3 j1 _
          simp only [xZ1W, j1, cond_false]
          exact lst.lift
      exact htl
    refine W.cond.2 ⟨fun hz => ?_, fun _ => rest⟩
    cases l with
    | nil => cases hz
    | cons x q =>
      obtain ⟨jn, n, rfl, b1, b2, _⟩ := h.node [] x q rfl
      have := h.fst jn q n rfl b1
      have e0 : ix ((jn : Int) :: q) 0 = some (jn : Int) := rfl
      simp only [e0, Option.bind_some, ix_nat' body, b1, this, show ((4 : Int) != 4) = false from rfl, cond_false]
      exact rest
theorem xZcc (p : xZ6) (types : List xZ2) (choices : List Int) (hp : xZ4a p) (hty : okL xZ4o types) (hc : okL (inK .i64) choices) : W (fun N => xZ3b N p types choices) (· = true) := by
  have hob : ∀ n ∈ p.Body, okN n.Test := fun n hn m hm => xZmY (((hp.1.1 n hn).2.2.2.2.2.2.1 m hm).2.2.2.2.2.2.1)
  simp only [xZ3b]
  refine W.call (xZmn p hp) fun b hb => ?_
  refine W.cond.2 ⟨fun _ => xZdS _, fun hb0 => ?_⟩
  obtain ⟨l50, _, lt⟩ := hb (by have := xZ19.1 hb0; omega)
  refine W.call (xZfy types) fun b2 hb2 => ?_
  refine W.cond.2 ⟨fun _ => xZdS _, fun hb1 => ?_⟩
  have hs := hb2 (by have := xZ19.1 hb1; omega)
  refine W.cond.2 ⟨fun _ => xZdS _, fun hb3 => ?_⟩
  refine W.call (xZoJ p l50 lt) fun own h => ?_
  obtain rfl := h.symm
  refine W.call (xZgt types hs) fun own2 h => ?_
  obtain rfl := h.symm
  by_cases hck : chkG p = 0
  · obtain ⟨q1, q2, q3, q4, q5, t, q6, q7, q8⟩ := xZiV hob hck
    refine W.call (xZmT hs q6 q8 q1 hck lt) ?_
    rintro ⟨e, at_⟩ ⟨c1, c2⟩
    refine W.cond.2 ⟨fun hz => ?_, fun hz => ?_⟩
    · rcases c1 (by simpa using hz) with h | ⟨i, n, h1, h2, h3⟩
      · have h : at_ = 0 := h
        subst h
        simp only [show ((0 : Int) == 0) = true from rfl, cond_true]
        exact xZdS _
      · have h1 : at_ = (i : Int) := h1
        subst h1
        have hi : i < p.Body.length := (List.getElem?_eq_some_iff.1 h2).1
        refine W.cond.2 ⟨fun _ => xZdS _, fun h0 => ?_⟩
        have h0' : i ≠ 0 := fun h => by subst h; cases h0
        simp only [show ltB 0 (i : Int) = true from xZi.2 (by omega), show ltB (i : Int) (p.Body.length : Int) = true from xZi.2 (by omega), cond_true, ix_nat', h2, Option.bind_some, show leB 4 n.Kind = true from xZ16.2 h3]
        exact xZdS _
    · refine W.call (xZov (choices := choices) hck q6 q8 (by omega)) ?_
      rintro _ rfl
      exact xZmJ (xZkT q6 q8 (c2 (by simpa using hz)) choices) (by omega) lt
  · refine W.call (f := fun N => xZ41 N p types) (P := fun r => r = (2, 0)) ?_ ?_
    · simp only [xZ41, xZ8j]
      refine W.call (N := fun N => N) (xZd5 p) ?_
      rintro _ rfl
      simp only [show (chkG p != 0) = true by simpa using hck, cond_true, W.ret]
    · rintro _ rfl
      simp only [show ((2 : Int) != 0) = true from rfl, show ((0 : Int) == 0) = true from rfl, cond_true]
      exact xZdS _
end
end Go.Proofs.YtbioikdfpfafaaaGreatDoor.R
