/- Patterns as trees: the program prints the text. No premise beyond what each theorem says. -/
import Derived.Test.YtahklhniofiofaaGreatDoorBP1
import Derived.Test.YtahklhniofiofaaGreatDoorBA3
set_option linter.all false
set_option linter.unusedSimpArgs false
set_option linter.unusedVariables false
namespace Go.Proofs.YtahklhniofiofaaGreatDoor.B
open Go
section
theorem xZfk {α : Type} {l : List α} {i : Nat} {nd : α} {r : List α} (h : l.drop i = nd :: r) : l[i]? = some nd ∧ l.drop (i + 1) = r := by
  have h1 : (l.drop i)[0]? = some nd := by rw [h]; rfl
  rw [List.getElem?_drop, Nat.add_zero] at h1
  refine ⟨h1, ?_⟩
  have : (l.drop i).drop 1 = r := by rw [h]; rfl
  rwa [List.drop_drop] at this
theorem xZgC {α : Type} {l : List α} {i : Nat} {a b : List α} (h : l.drop i = a ++ b) : l.drop (i + a.length) = b := by
  rw [← List.drop_drop, h, List.drop_left]
theorem xZiN : ∀ (a b : List GT) (alt : Bool), GT.txr (a ++ b) alt = GT.txr a alt ++ GT.txr b alt
  | [], b, alt => by simp [GT.txr]
  | x :: a, b, alt => by simp only [List.cons_append, GT.txr, xZiN a b alt, List.append_assoc]
theorem gN {m : Nat} (h : m ≤ 1000000) : Nat.ble m 9223372036854775807 = true := Nat.ble_eq_true_of_le (by omega)
section
variable {y : List xZ2} {y2 : Int} {y3 : List UInt8} {y4 : Int}
def PRG (y : List xZ2) (y2 : Int) (y3 : List UInt8) (y4 : Int) (t : GT) (w : Int) : Prop :=
  ∀ (i : Nat) (r : List xZ2), y.drop i = t.fl ++ r → W (fun N => (xZu N) w y y2 y3 y4 (i : Int)) (· = (t.tx w, y, y2, y3, y4, ((i + t.fl.length : Nat) : Int)))
theorem xZlJ (hy : y.length ≤ 40) {neg : Bool} {v t : List UInt8} {o : Option TT} {w : Int} (h : (GT.leaf neg v t o).ok w) : PRG y y2 y3 y4 (.leaf neg v t o) w := fun i r hd => by
  simp only [GT.fl, List.singleton_append] at hd
  obtain ⟨h1, h2⟩ := xZfk hd
  have hlt := (List.getElem?_eq_some_iff.1 h1).1
  have hx : ix y (i : Int) = some ⟨kL neg, 0, 0, 0, v, t, oT o⟩ := by rw [ix_nat', h1]
  refine W.shift ?_
  show W (fun N => xZ12 N (xZu N) w y y2 y3 y4 (i : Int)) _
  have hl : lfG ⟨kL neg, 0, 0, 0, v, t, oT o⟩ = true := by cases neg <;> rfl
  simp only [xZ12, hx, Option.bind_some, W.gd, xZJ, e_lf, hl, cond_true]
  refine ⟨by omega, W.call (xZpq h.2.1 h.2.2.1 h.2.2.2) ?_⟩
  rintro _ rfl
  exact W.ret.2 rfl
theorem xZmX (hy : y.length ≤ 40) {lo hi : Int} {a : GT} {w : Int} (h : (GT.rep lo hi a).ok w) (ha : PRG y y2 y3 y4 a 3) : PRG y y2 y3 y4 (.rep lo hi a) w := fun i r hd => by
  simp only [GT.fl, List.cons_append] at hd
  obtain ⟨h1, h2⟩ := xZfk hd
  have hlt := (List.getElem?_eq_some_iff.1 h1).1
  have hx : ix y (i : Int) = some ⟨3, 1, lo, hi, [], [], []⟩ := by rw [ix_nat', h1]
  have hfl : a.fl.length ≤ 40 := by
    have := congrArg List.length h2
    simp only [List.length_drop, List.length_append] at this; omega
  have hta := xZk3 a 3 h.2
  have htm := xZiu h.1.1 h.1.2.1 h.1.2.2.1 h.1.2.2.2.1
  refine W.shift ?_
  show W (fun N => xZ12 N (xZu N) w y y2 y3 y4 (i : Int)) _
  simp only [xZ12, hx, Option.bind_some, W.gd, xZJ, e_lf, show lfG ⟨3, 1, lo, hi, [], [], []⟩ = false from rfl, cond_false, show ((3 : Int) == 2) = false from rfl, e_kdG, show kdG ⟨3, 1, lo, hi, [], [], []⟩ = 1 from rfl]
  refine ⟨by omega, ?_⟩
  have hw := ha (i + 1) r h2
  refine W.bind (show W (fun N => (xZu N) 3 y y2 y3 y4 ((i : Int) + 1)) _ from hw) ?_
  rintro _ rfl
  simp only [W.gd, xZJ]
  refine ⟨by omega, ?_⟩
  have hout : brT (decide (w = 3)) (GT.tx a 3 ++ timS lo hi) = (GT.rep lo hi a).tx w := by rw [GT.tx]
  rw [← hout, show i + (GT.rep lo hi a).fl.length = i + 1 + a.fl.length by simp only [GT.fl, List.length_cons]; omega]
  refine W.lp8 (P := fun v0 v1 v2 v3 v4 v5 v6 v7 => v1 = a.tx 3 ∧ v2 = 0 ∧ v3 = y ∧ v4 = y2 ∧ v5 = y3 ∧ v6 = y4 ∧ v7 = ((i + 1 + a.fl.length : Nat) : Int)) (m := fun _ _ _ _ _ _ _ _ => 0) ⟨rfl, rfl, rfl, rfl, rfl, rfl, rfl⟩ ?_
  rintro F v0 v1 v2 v3 v4 v5 v6 v7 ⟨rfl, rfl, rfl, rfl, rfl, rfl, rfl⟩ hn
  simp only [xZ13, show ltB 0 ((1 : Int) - 1) = false from rfl, cond_false, show ((3 : Int) == 3) = true from rfl, cond_true]
  refine W.call (w_tim (n := ⟨3, 1, lo, hi, [], [], []⟩) h.1.1 h.1.2.1 h.1.2.2.1 h.1.2.2.2.1) ?_
  rintro _ rfl
  have e1 : (a.tx 3 ++ timS lo hi).length ≤ 200000 := by rw [List.length_append]; omega
  have e1' : (a.tx 3).length + (timS lo hi).length ≤ 1000000 := by omega
  simp only [gN e1', xZ1b]
  generalize a.tx 3 ++ timS lo hi = z at *
  by_cases hw3 : w = 3
  · subst hw3
    simp only [show ((3 : Int) == 3) = true from rfl, cond_true, gN (show 1 + z.length ≤ 1000000 by omega), gN (show z.length + 1 + 1 ≤ 1000000 by omega), xZ1b, W.ret]
    rfl
  · simp only [show (w == 3) = false by simpa using hw3, cond_false, show ((3 : Int) == 2) = false from rfl, decide_eq_false hw3]
    cases w == 1 <;> exact W.ret.2 rfl
theorem xZmA (hy : y.length ≤ 40) {alt : Bool} {bs : List GT} {w : Int} (h : (GT.lst alt bs).ok w) (hb : ∀ b ∈ bs, PRG y y2 y3 y4 b (kA alt)) : PRG y y2 y3 y4 (.lst alt bs) w := fun i r hd => by
  obtain ⟨g1, g2, g3, g4⟩ := h
  simp only [GT.fl, List.cons_append] at hd
  obtain ⟨h1, h2⟩ := xZfk hd
  have hlt := (List.getElem?_eq_some_iff.1 h1).1
  generalize hnd : (⟨kA alt, (bs.length : Int), 0, 0, [], [], []⟩ : xZ2) = nd at *
  have hx : ix y (i : Int) = some nd := by rw [ix_nat', h1]
  have hlf : lfG nd = false := by subst hnd; cases alt <;> rfl
  have hk : nd.Kind = kA alt := by subst hnd; rfl
  have hkd : kdG nd = bs.length := by
    subst hnd
    have : isLs ⟨kA alt, (bs.length : Int), 0, 0, [], [], []⟩ = true := by cases alt <;> rfl
    unfold kdG
    rw [if_pos this]
    show max 0 (min (bs.length : Int) 40) = _
    omega
  obtain ⟨a, q, rfl⟩ : ∃ a q, bs = a :: q := by
    cases bs with
    | nil => simp at g2
    | cons a q => exact ⟨a, q, rfl⟩
  have hq40 : q.length ≤ 40 := by simp only [List.length_cons] at g3; omega
  have hfl : (GT.fls (a :: q)).length ≤ 40 := by
    have := congrArg List.length h2
    simp only [List.length_drop, List.length_append] at this; omega
  have htx := xZhw (a :: q) alt g4
  have hB : (GT.txr (a :: q) alt).length ≤ 200000 := by omega
  have hd0 : y.drop (i + 1) = a.fl ++ (GT.fls q ++ r) := by rw [h2, GT.fls, List.append_assoc]
  have hw := hb a (List.mem_cons_self ..) (i + 1) _ hd0
  have hd1 := xZgC hd0
  refine W.shift ?_
  show W (fun N => xZ12 N (xZu N) w y y2 y3 y4 (i : Int)) _
  -- what is behind the first
  have hloop : ∀ (x : Int), x = (q.length : Int) → W (fun N => lp8 (xZ13 N (xZu N) w x (kA alt) nd.Kids nd.Lo nd.Hi nd.Var nd.Type_ nd.Test) N (sepT alt) (a.tx (kA alt)) 0 y y2 y3 y4 ((i + 1 + a.fl.length : Nat) : Int)) (· = ((GT.lst alt (a :: q)).tx w, y, y2, y3, y4, ((i + (GT.lst alt (a :: q)).fl.length : Nat) : Int))) := by
    rintro x rfl
    refine W.lp8 (P := fun v0 v1 v2 v3 v4 v5 v6 v7 => v0 = sepT alt ∧ v3 = y ∧ v4 = y2 ∧ v5 = y3 ∧ v6 = y4 ∧ ∃ pre suf : List GT, q = pre ++ suf ∧ v1 = a.tx (kA alt) ++ GT.txr pre alt ∧ v2 = (pre.length : Int) ∧ v7 = ((i + 1 + a.fl.length + (GT.fls pre).length : Nat) : Int)) (m := fun _ _ v2 _ _ _ _ _ => q.length - v2.toNat)
      ⟨rfl, rfl, rfl, rfl, rfl, [], q, rfl, by simp [GT.txr], rfl, by simp [GT.fls]⟩ ?_
    rintro F v0 v1 v2 v3 v4 v5 v6 v7 ⟨rfl, rfl, rfl, rfl, rfl, pre, suf, hq, rfl, rfl, rfl⟩ hn
    simp only [xZ13]
    cases suf with
    | cons b suf =>
      have hql : q.length = pre.length + (suf.length + 1) := by rw [hq]; simp
      simp only [show ltB (pre.length : Int) (q.length : Int) = true from xZY.2 (by omega), cond_true]
      have hd2 : v3.drop (i + 1 + a.fl.length + (GT.fls pre).length) = b.fl ++ (GT.fls suf ++ r) := by
        refine xZgC (b := _) ?_
        rw [hd1, hq, xZiB, GT.fls, List.append_assoc, List.append_assoc]
      have hwb := hb b (by rw [hq]; simp) _ _ hd2
      refine W.bind (W.lift hwb) ?_
      rintro _ rfl
      have hB2 : (sepT alt).length + (a.tx (kA alt)).length + (GT.txr pre alt).length + ((sepT alt).length + (b.tx (kA alt)).length) ≤ 200000 := by
        have := hB
        rw [hq] at this
        simp only [GT.txr, xZiN, List.length_append] at this
        omega
      simp only [gN (show (sepT alt).length + (b.tx (kA alt)).length ≤ 1000000 by omega), gN (show (a.tx (kA alt) ++ GT.txr pre alt).length + (sepT alt ++ b.tx (kA alt)).length ≤ 1000000 by simp only [List.length_append]; omega), xZ1b, W.gd, xZJ]
      refine ⟨by omega, hn _ _ _ _ _ _ _ _ ⟨rfl, rfl, rfl, rfl, rfl, pre ++ [b], suf, by rw [hq]; simp, ?_, by simp, ?_⟩ (by simp only [Int.toNat_natCast]; omega)⟩
      · rw [xZiN, GT.txr, GT.txr, List.append_nil, List.append_assoc]
      · rw [xZiB, GT.fls, GT.fls, List.append_nil, List.length_append]
        congr 1
        omega
    | nil =>
      rw [List.append_nil] at hq
      subst hq
      have e0 : ltB (q.length : Int) (q.length : Int) = false := by rw [xZ7S]; simp
      have hz : (GT.txr (a :: q) alt).drop (sepT alt).length = a.tx (kA alt) ++ GT.txr q alt := by rw [GT.txr, List.append_assoc, List.drop_left]
      have hpos : i + (GT.lst alt (a :: q)).fl.length = i + 1 + a.fl.length + (GT.fls q).length := by simp only [GT.fl, GT.fls, List.length_cons, List.length_append]; omega
      have hzl : (a.tx (kA alt) ++ GT.txr q alt).length ≤ 200000 := by rw [← hz, List.length_drop]; omega
      rw [hpos, GT.tx, hz]
      simp only [e0, cond_false]
      generalize a.tx (kA alt) ++ GT.txr q alt = z at *
      have k3 : (kA alt == 3) = false := by cases alt <;> rfl
      simp only [k3, cond_false]
      by_cases hw3 : w = 3
      · subst hw3
        simp only [show ((3 : Int) == 3) = true from rfl, cond_true, gN (show 1 + z.length ≤ 1000000 by omega), gN (show z.length + 1 + 1 ≤ 1000000 by omega), xZ1b, W.ret]
        rfl
      · simp only [show (w == 3) = false by simpa using hw3, cond_false]
        by_cases hw1 : w = 1
        · subst hw1
          simp only [show ((1 : Int) == 1) = true from rfl, cond_true]
          cases alt
          · exact W.ret.2 rfl
          · simp only [show (kA true == 2) = true from rfl, cond_true, gN (show 1 + z.length ≤ 1000000 by omega), gN (show z.length + 1 + 1 ≤ 1000000 by omega), xZ1b, W.ret]
            rfl
        · have : decide (w = 3 ∨ (w = 1 ∧ alt = true)) = false := decide_eq_false fun hh => hh.elim hw3 fun h => hw1 h.1
          simp only [show (w == 1) = false by simpa using hw1, cond_false, W.ret, this]
          rfl
  simp only [xZ12, hx, Option.bind_some, W.gd, xZJ, e_lf, hlf, cond_false, e_kdG, hkd, hk]
  refine ⟨by omega, ?_⟩
  have hl1 : ((List.length (a :: q) : Int) - 1) = (q.length : Int) := by simp only [List.length_cons]; omega
  cases alt
  · simp only [show (kA false == 2) = false from rfl, cond_false]
    refine W.bind (show W (fun N => (xZu N) (kA false) y y2 y3 y4 ((i : Int) + 1)) _ from hw) ?_
    rintro _ rfl
    simp only [W.gd, xZJ]
    exact ⟨by omega, hloop _ hl1⟩
  · simp only [show (kA true == 2) = true from rfl, cond_true]
    refine W.bind (show W (fun N => (xZu N) (kA true) y y2 y3 y4 ((i : Int) + 1)) _ from hw) ?_
    rintro _ rfl
    simp only [W.gd, xZJ]
    exact ⟨by omega, hloop _ hl1⟩
mutual
theorem pr_g (hy : y.length ≤ 40) : ∀ (t : GT) (w : Int), t.ok w → PRG y y2 y3 y4 t w
  | .leaf neg v t o, w, h => xZlJ hy h
  | .rep lo hi a, w, h => xZmX hy h (pr_g hy a 3 h.2)
  | .lst alt bs, w, h => xZmA hy h (pr_gs hy bs (kA alt) h.2.2.2)
theorem pr_gs (hy : y.length ≤ 40) : ∀ (bs : List GT) (w : Int), GT.oks bs w → ∀ b ∈ bs, PRG y y2 y3 y4 b w
  | [], w, _, b, hb => by cases hb
  | a :: r, w, h, b, hb => by
    rcases List.mem_cons.1 hb with e | hb
    · rw [e]; exact pr_g hy a w h.1
    · exact pr_gs hy r w h.2 b hb
end
end
end
theorem s58 : Cut' [58] [sg [58]] := xZ5N fun _ => rfl
theorem s59 : Cut' [59] [sg [59]] := xZ5N fun _ => rfl
theorem s91 : Cut' [91] [sg [91]] := xZ5N fun _ => rfl
theorem s93 : Cut' [93] [sg [93]] := xZ5N fun _ => rfl
theorem s123 : Cut' [123] [sg [123]] := xZ5N fun _ => rfl
theorem s125 : Cut' [125] [sg [125]] := xZ5N fun _ => rfl
theorem s124 : Cut' [124] [sg [124]] := xZ5N fun _ => rfl
theorem s44 : Cut' [44] [sg [44]] := xZ5N fun _ => rfl
theorem s63 : Cut' [63] [sg [63]] := xZ5N fun _ => rfl
theorem s42 : Cut' [42] [sg [42]] := xZ5N fun _ => rfl
theorem hdD {d : UInt8} {b : List UInt8} (h : Dl d) : Hd (d :: b) := ⟨_, _, rfl, h⟩
theorem dl58 : Dl 58 := ⟨by decide, by decide, by decide, by decide, by decide⟩
theorem dl59 : Dl 59 := ⟨by decide, by decide, by decide, by decide, by decide⟩
theorem dl91 : Dl 91 := ⟨by decide, by decide, by decide, by decide, by decide⟩
theorem dl93 : Dl 93 := ⟨by decide, by decide, by decide, by decide, by decide⟩
theorem dl123 : Dl 123 := ⟨by decide, by decide, by decide, by decide, by decide⟩
theorem dl125 : Dl 125 := ⟨by decide, by decide, by decide, by decide, by decide⟩
theorem dl44 : Dl 44 := ⟨by decide, by decide, by decide, by decide, by decide⟩
theorem dl63 : Dl 63 := ⟨by decide, by decide, by decide, by decide, by decide⟩
theorem dl42 : Dl 42 := ⟨by decide, by decide, by decide, by decide, by decide⟩
theorem dl43 : Dl 43 := ⟨by decide, by decide, by decide, by decide, by decide⟩
def nK (n : Int) : Tk := (3, [], ⟨1, n, 0, []⟩)
theorem xZmf {n : Int} (h0 : 0 ≤ n) (h1 : n ≤ 1073741824) : Cut (dg n) [nK n] := by
  have := xZhP (a := dgU n) (xZmL h0 h1)
  have e : (dgU n).tk = [nK n] := by
    show (if (1 : Int) = 1 ∧ n < 0 then _ else _) = _
    rw [if_neg (by omega)]; rfl
  rwa [e] at this
def oKt : Option TT → List Tk
  | none => []
  | some p => sg [91] :: (p.tk ++ [sg [93]])
def lfK (neg : Bool) (v t : List UInt8) (o : Option TT) : List Tk := (if neg then [sg [33]] else []) ++ ((1, v, zv) :: sg [58] :: (1, t, zv) :: oKt o)
def timK (lo hi : Int) : List Tk :=
  if hi = 1 then [sg [63]] else if hi = 0 ∧ lo = 0 then [sg [42]] else if hi = 0 ∧ lo = 1 then [sg [43]] else if hi = 0 then [sg [123], nK lo, sg [44], sg [125]]
  else if hi = lo then [sg [123], nK lo, sg [125]] else [sg [123], nK lo, sg [44], nK hi, sg [125]]
theorem xZnz {lo hi : Int} (h1 : 0 ≤ lo) (h2 : lo ≤ 8) (h3 : 0 ≤ hi) (h4 : hi ≤ 8) : Cut (timS lo hi) (timK lo hi) ∧ Hd (timS lo hi) := by
  have a := xZmf h1 (show lo ≤ 1073741824 by omega)
  have b := xZmf h3 (show hi ≤ 1073741824 by omega)
  unfold timS timK
  split
  · exact ⟨s63.sc, hdD dl63⟩
  split
  · exact ⟨s42.sc, hdD dl42⟩
  split
  · exact ⟨s43.sc, hdD dl43⟩
  split
  · refine ⟨?_, hdD dl123⟩
    show Cut ([123] ++ (dg lo ++ ([44] ++ [125]))) ([sg [123]] ++ ([nK lo] ++ ([sg [44]] ++ [sg [125]])))
    exact sc2 s123 (sc1 a (hdD dl44) (sc2 s44 s125.sc))
  split
  · refine ⟨?_, hdD dl123⟩
    show Cut ([123] ++ (dg lo ++ [125])) ([sg [123]] ++ ([nK lo] ++ [sg [125]]))
    exact sc2 s123 (sc1 a (hdD dl125) s125.sc)
  · refine ⟨?_, hdD dl123⟩
    have e : (123 :: (((dg lo ++ [44]) ++ dg hi) ++ [125]) : List UInt8) = [123] ++ (dg lo ++ ([44] ++ (dg hi ++ [125]))) := by simp
    rw [e]
    show Cut _ ([sg [123]] ++ ([nK lo] ++ ([sg [44]] ++ ([nK hi] ++ [sg [125]]))))
    exact sc2 s123 (sc1 a (hdD dl44) (sc2 s44 (sc1 b (hdD dl125) s125.sc)))
/-- The sign of a leaf that is not to come. -/
theorem xZqb : CutX (fun b => ∃ c r, b = c :: r ∧ c ≠ 61) [33] [sg [33]] := fun rest p out hf ho => by
  obtain ⟨c, r, rfl, hc⟩ := hf
  have h2 : oneR (33 :: c :: r) = .inl (4, [33], zv, 1) := by
    show signR 33 (c :: r) = _
    unfold signR
    rw [if_neg (by rintro ⟨_, h⟩; simp at h; exact hc h)]
  exact ⟨fun ho => ⟨[⟨4, (p : Int), [33], zv⟩], rfl, xZhT (by simp) rfl h2 (by simp at ho; omega)⟩, fun h2 => xZiC (by simp) rfl (by simp at h2; omega)⟩
theorem cut_o {o : Option TT} (h : oK o) : Cut (oX o) (oKt o) ∧ (oX o = [] ∨ Hd (oX o)) := by
  cases o with
  | none => exact ⟨fun rest p out _ ho => ⟨fun _ => ⟨[], rfl, by simp [oX]⟩, fun h2 => by simp [oKt] at h2; omega⟩, .inl rfl⟩
  | some t =>
    refine ⟨?_, .inr (hdD dl91)⟩
    show Cut ([91] ++ (t.tx ++ [93])) ([sg [91]] ++ (t.tk ++ [sg [93]]))
    exact sc2 s91 (sc1 (xZdb h.1) (hdD dl93) s93.sc)
theorem xZi4 {a b : List UInt8} {s t : List Tk} (h1 : Cut a s) (hb : b = [] ∨ Hd b) (h2 : Cut b t) : Cut (a ++ b) (s ++ t) :=
  xZfS h1 h2 fun rest hr => by
    rcases hb with rfl | ⟨d, r, rfl, h⟩
    · exact hr
    · exact .inr ⟨d, r ++ rest, rfl, h⟩
theorem xZml {neg : Bool} {v t : List UInt8} {o : Option TT} (hv : nm v = true) (ht : nm t = true) (ho : oK o) : Cut (lfT neg v t o) (lfK neg v t o) := by
  obtain ⟨c1, c2⟩ := cut_o ho
  have hm : Cut (v ++ ([58] ++ (t ++ oX o))) ([(1, v, zv)] ++ ([sg [58]] ++ ([(1, t, zv)] ++ oKt o))) :=
    sc1 (xZcW hv) (hdD dl58) (sc2 s58 (xZi4 (xZcW ht) c2 c1))
  have e : ((v ++ [58]) ++ t) ++ oX o = v ++ ([58] ++ (t ++ oX o)) := by simp
  cases neg
  · show Cut (((v ++ [58]) ++ t) ++ oX o) _
    rw [e]; exact hm
  · show Cut ([33] ++ (((v ++ [58]) ++ t) ++ oX o)) ([sg [33]] ++ _)
    rw [e]
    refine xZfS xZqb hm fun rest _ => ?_
    cases v with
    | nil => cases hv
    | cons c q =>
      refine ⟨c, _, rfl, fun hc => ?_⟩
      subst hc
      simp only [nm, Bool.and_eq_true] at hv
      exact absurd hv.2.1 (by decide)
mutual
def GT.tk : GT → Int → List Tk
  | .leaf neg v t o, _ => lfK neg v t o
  | .rep lo hi a, w => brk (decide (w = 3)) (GT.tk a 3 ++ timK lo hi)
  | .lst alt bs, w => brk (decide (w = 3 ∨ (w = 1 ∧ alt = true))) ((GT.tkr bs alt).drop 1)
def GT.tkr : List GT → Bool → List Tk
  | [], _ => []
  | a :: r, alt => (sg (if alt then [124] else [59]) :: GT.tk a (kA alt)) ++ GT.tkr r alt
end
theorem xZnp (alt : Bool) : Cut' (sepT alt) [sg (if alt then [124] else [59])] := by
  cases alt
  · exact xZfS s59 xZ5I fun _ _ => trivial
  · exact xZfS xZ5I (xZfS s124 xZ5I fun _ _ => trivial) fun _ _ => trivial
theorem xZmK (bs : List GT) (alt : Bool) : GT.txr bs alt = [] ∨ Hd (GT.txr bs alt) := by
  cases bs with
  | nil => exact .inl rfl
  | cons a r =>
    refine .inr ?_
    rw [GT.txr]
    cases alt
    · exact hdD dl59
    · exact hdD dl32
mutual
theorem cut_g : ∀ (t : GT) (w : Int), t.ok w → Cut (t.tx w) (t.tk w)
  | .leaf neg v t o, w, h => by
    rw [GT.tx, GT.tk]; exact xZml h.2.1 h.2.2.1 h.2.2.2
  | .rep lo hi a, w, h => by
    obtain ⟨c1, c2⟩ := xZnz h.1.1 h.1.2.1 h.1.2.2.1 h.1.2.2.2.1
    rw [GT.tx, GT.tk]
    exact sc_br (sc1 (cut_g a 3 h.2) c2 c1)
  | .lst alt [], w, h => absurd h.2.1 (by simp)
  | .lst alt (a :: r), w, h => by
    rw [GT.tx, GT.tk]
    refine sc_br ?_
    rw [GT.txr, GT.tkr, List.append_assoc, List.drop_left]
    show Cut _ (GT.tk a (kA alt) ++ GT.tkr r alt)
    exact xZi4 (cut_g a (kA alt) h.2.2.2.1) (xZmK r alt) (xZn1 r alt h.2.2.2.2)
theorem xZn1 : ∀ (bs : List GT) (alt : Bool), GT.oks bs (kA alt) → Cut (GT.txr bs alt) (GT.tkr bs alt)
  | [], alt, _ => fun rest p out _ ho => ⟨fun _ => ⟨[], rfl, by simp [GT.txr]⟩, fun h2 => by simp [GT.tkr] at h2; omega⟩
  | a :: r, alt, h => by
    rw [GT.txr, GT.tkr, List.append_assoc]
    show Cut _ (([sg (if alt then [124] else [59])] ++ GT.tk a (kA alt)) ++ GT.tkr r alt)
    rw [List.append_assoc]
    exact sc2 (xZnp alt) (xZi4 (cut_g a (kA alt) h.1) (xZmK r alt) (xZn1 r alt h.2))
end
/-- What stands behind a body. -/
def btT (wi : Int) (b : List UInt8) (m : Int) : List UInt8 := [32, 119, 105, 116, 104, 105, 110, 32] ++ (dg wi ++ ((if b = [] then [] else 32 :: 98 :: 121 :: 32 :: b) ++ (32 :: wdS m)))
def btK (wi : Int) (b : List UInt8) (m : Int) : List Tk := kw [119, 105, 116, 104, 105, 110] :: nK wi :: ((if b = [] then [] else [kw [98, 121], (1, b, zv)]) ++ [kw (wdS m)])
theorem xZph {wi : Int} {b : List UInt8} {m : Int} (h1 : 1 ≤ wi) (h2 : wi ≤ 1073741824) (h3 : b = [] ∨ nm b = true) (h4 : m = 1 ∨ m = 2 ∨ m = 3) : Cut (btT wi b m) (btK wi b m) := by
  have hw : Cut (wdS m) [kw (wdS m)] := by rcases h4 with rfl | rfl | rfl <;> exact xZcD (by decide) rfl
  have ht : Cut ([32] ++ wdS m) ([] ++ [kw (wdS m)]) := sc2 xZ5I hw
  have hm : Cut ((if b = [] then [] else 32 :: 98 :: 121 :: 32 :: b) ++ (32 :: wdS m)) ((if b = [] then [] else [kw [98, 121], (1, b, zv)]) ++ [kw (wdS m)]) ∧ Hd ((if b = [] then [] else 32 :: 98 :: 121 :: 32 :: b) ++ (32 :: wdS m)) := by
    by_cases hb : b = []
    · rw [if_pos hb, if_pos hb]
      exact ⟨ht, hdD dl32⟩
    · rw [if_neg hb, if_neg hb]
      refine ⟨?_, hdD dl32⟩
      show Cut (([32] ++ ([98, 121] ++ ([32] ++ b))) ++ ([32] ++ wdS m)) (([] ++ ([kw [98, 121]] ++ ([] ++ [(1, b, zv)]))) ++ ([] ++ [kw (wdS m)]))
      exact sc1 (sc2 xZ5I (sc1 (xZcD (by decide) rfl) hd32 (sc2 xZ5I (xZcW (h3.resolve_left hb))))) hd32 ht
  show Cut ([32] ++ ([119, 105, 116, 104, 105, 110] ++ ([32] ++ (dg wi ++ _)))) ([] ++ ([kw [119, 105, 116, 104, 105, 110]] ++ ([] ++ ([nK wi] ++ _))))
  exact sc2 xZ5I (sc1 (xZcD (by decide) rfl) hd32 (sc2 xZ5I (sc1 (xZmf (by omega) h2) hm.2 hm.1)))
section
section
variable {y : List xZ0} {e : Int}
theorem xZpP {b : Nat} {p : TT} (ho : oK (some p)) (hm : M y b p.tk) (hs : ke (tk y (b + p.tk.length)) = sg [93]) : PAR y b e = .inr (p.fl, b + p.tk.length) := by
  obtain ⟨o1, o2, o3, o4⟩ := ho
  obtain ⟨m, _, h3⟩ := (pp3 (y := y) p o1).1 51 0 b (by omega) (fun _ => by omega) (by omega) hm (Fo_sg hs (by decide) (by decide) (by decide)) (by rw [xZT hs]; rfl)
  rw [xZ9s (xZ9n (by rw [xZT hs]; rfl))] at h3
  unfold PAR
  rw [show (SPP y 51).1 0 b = _ from h3]
  simp only [o4, if_true]
theorem xZkH {v t : List UInt8} {o : Option TT} {k : Int} {i : Nat} (ho : oK o) (hm : M y i ((1, v, zv) :: sg [58] :: (1, t, zv) :: oKt o)) (hx : isT' y (i + (3 + (oKt o).length)) 4 [91] = false) :
    atomS y e k i = .inr ([⟨k, 0, 0, 0, v, t, oT o⟩], i + (3 + (oKt o).length)) := by
  obtain ⟨m1, m2, m3, m4⟩ := hm
  have k1 : (tk y i).Kind = 1 := congrArg (·.1) m1
  have t1 : (tk y i).Text = v := congrArg (·.2.1) m1
  have k3 : (tk y (i + 2)).Kind = 1 := congrArg (·.1) m3
  have t3 : (tk y (i + 2)).Text = t := congrArg (·.2.1) m3
  have s2 : isT' y (i + 1) 4 [58] = true := by rw [xZT m2]; rfl
  unfold atomS
  rw [if_pos k1, if_pos s2, if_pos k3]
  cases o with
  | none =>
    have hx : isT' y (i + 3) 4 [91] = false := hx
    rw [if_neg (by rw [hx]; decide), t1, t3]
    rfl
  | some p =>
    obtain ⟨n1, n2⟩ := m4
    obtain ⟨n2, n3⟩ := M_app.1 n2
    have s4 : isT' y (i + 3) 4 [91] = true := by rw [xZT n1]; rfl
    have s5 : isT' y (i + 4 + p.tk.length) 4 [93] = true := by rw [show i + 4 + p.tk.length = i + 1 + 1 + 1 + 1 + p.tk.length by omega, xZT n3.1]; rfl
    have hP : PAR y (i + 4) e = .inr (p.fl, i + 4 + p.tk.length) := xZpP ho n2 n3.1
    rw [if_pos s4, hP]
    simp only [s5, if_true, t1, t3]
    simp only [oT, oKt, List.length_cons, List.length_append, List.length_nil]
    rw [show i + 4 + p.tk.length + 1 = i + (3 + (p.tk.length + (0 + 1) + 1)) by omega]
/-- What stands behind: nothing that an item goes on with. -/
def Nx (y : List xZ0) (j : Nat) : Prop := isT' y j 4 [43] = false ∧ isT' y j 4 [42] = false ∧ isT' y j 4 [63] = false ∧ isT' y j 4 [123] = false ∧ isT' y j 4 [91] = false
theorem xZhU {j : Nat} (h : Nx y j) : oftS y e j = .inr (none, j) := by
  obtain ⟨h1, h2, h3, h4, _⟩ := h
  unfold oftS
  rw [if_neg (by rw [h1]; decide), if_neg (by rw [h2]; decide), if_neg (by rw [h3]; decide), if_neg (by rw [h4]; decide)]
theorem xZj2 {i : Nat} {n : Int} (h : ke (tk y i) = nK n) : numS y i = some n := by
  have k1 : (tk y i).Kind = 3 := congrArg (·.1) h
  have k2 : (tk y i).Val = ⟨1, n, 0, []⟩ := congrArg (·.2.2) h
  unfold numS
  rw [k1, k2]; rfl
theorem xZnu {j : Nat} {lo hi : Int} (h : 0 ≤ lo ∧ lo ≤ 8 ∧ 0 ≤ hi ∧ hi ≤ 8 ∧ ¬ (lo = 1 ∧ hi = 1) ∧ (hi = 0 ∨ lo ≤ hi)) (hm : M y j (timK lo hi)) : oftS y e j = .inr (some (lo, hi), j + (timK lo hi).length) ∧ isT' y j 4 [91] = false := by
  obtain ⟨a1, a2, a3, a4, a5, a6⟩ := h
  unfold timK at hm ⊢
  by_cases c1 : hi = 1
  · have hl : lo = 0 := by omega
    subst c1 hl
    rw [if_pos rfl] at hm ⊢
    have m := hm.1
    refine ⟨?_, by rw [xZT m]; rfl⟩
    unfold oftS
    rw [if_neg (by rw [xZT m]; decide), if_neg (by rw [xZT m]; decide), if_pos (by rw [xZT m]; rfl)]
    rfl
  rw [if_neg c1] at hm ⊢
  by_cases c2 : hi = 0 ∧ lo = 0
  · obtain ⟨rfl, rfl⟩ := c2
    rw [if_pos ⟨rfl, rfl⟩] at hm ⊢
    have m := hm.1
    refine ⟨?_, by rw [xZT m]; rfl⟩
    unfold oftS
    rw [if_neg (by rw [xZT m]; decide), if_pos (by rw [xZT m]; rfl)]
    rfl
  rw [if_neg c2] at hm ⊢
  by_cases c3 : hi = 0 ∧ lo = 1
  · obtain ⟨rfl, rfl⟩ := c3
    rw [if_pos ⟨rfl, rfl⟩] at hm ⊢
    have m := hm.1
    refine ⟨?_, by rw [xZT m]; rfl⟩
    unfold oftS
    rw [if_pos (by rw [xZT m]; rfl)]
    rfl
  rw [if_neg c3] at hm ⊢
  have hb : ∀ x : (Int × Int) ⊕ (Int × Int × Nat), ke (tk y j) = sg [123] → cntS y e (j + 1) = x → oftS y e j = (match x with | .inl x => .inl x | .inr (a, b, k) => .inr (some (a, b), k)) := fun x m hx => by
    unfold oftS
    rw [if_neg (by rw [xZT m]; decide), if_neg (by rw [xZT m]; decide), if_neg (by rw [xZT m]; decide), if_pos (by rw [xZT m]; rfl), hx]
    rcases x with x | ⟨a, b, k⟩ <;> rfl
  by_cases c4 : hi = 0
  · subst c4
    rw [if_pos rfl] at hm ⊢
    obtain ⟨m1, m2, m3, m4, _⟩ := hm
    refine ⟨?_, by rw [xZT m1]; rfl⟩
    have : cntS y e (j + 1) = .inr (lo, 0, j + 4) := by
      unfold cntS
      rw [xZj2 m2]
      simp only [xZT m3, xZT m4]
      rfl
    rw [hb _ m1 this]; rfl
  rw [if_neg c4] at hm ⊢
  by_cases c5 : hi = lo
  · subst c5
    rw [if_pos rfl] at hm ⊢
    obtain ⟨m1, m2, m3, _⟩ := hm
    refine ⟨?_, by rw [xZT m1]; rfl⟩
    have : cntS y e (j + 1) = .inr (hi, hi, j + 3) := by
      unfold cntS
      rw [xZj2 m2]
      simp only [xZT m3]
      rfl
    rw [hb _ m1 this]; rfl
  rw [if_neg c5] at hm ⊢
  obtain ⟨m1, m2, m3, m4, m5, _⟩ := hm
  refine ⟨?_, by rw [xZT m1]; rfl⟩
  have n4 : numS y (j + 1 + 2) = some hi := xZj2 m4
  have f4 : isT' y (j + 1 + 2) 4 [125] = false := by rw [show j + 1 + 2 = j + 1 + 1 + 1 from rfl, xZT m4]; rfl
  have f3 : isT' y (j + 1 + 1) 4 [44] = true := by rw [xZT m3]; rfl
  have f5 : isT' y (j + 1 + 3) 4 [125] = true := by rw [show j + 1 + 3 = j + 1 + 1 + 1 + 1 from rfl, xZT m5]; rfl
  have : cntS y e (j + 1) = .inr (lo, hi, j + 5) := by
    unfold cntS
    rw [xZj2 m2]
    simp only [f3, f4, n4, f5, if_true, Bool.false_eq_true, if_false]
  rw [hb _ m1 this]; rfl
end
end
section
def GT.isB : GT → Int → Bool
  | .leaf .., _ => false
  | .rep .., w => decide (w = 3)
  | .lst alt _, w => decide (w = 3 ∨ (w = 1 ∧ alt = true))
def GT.isA : GT → Bool
  | .lst true _ => true
  | _ => false
theorem xZlL : ∀ (t : GT) (w : Int), t.tk w = brk (t.isB w) (t.tk 0)
  | .leaf neg v t o, w => by rw [GT.tk, GT.tk]; rfl
  | .rep lo hi a, w => by rw [GT.tk, GT.tk]; rfl
  | .lst alt bs, w => by
    rw [GT.tk, GT.tk]
    have : decide ((0 : Int) = 3 ∨ ((0 : Int) = 1 ∧ alt = true)) = false := decide_eq_false (by omega)
    rw [this]; rfl
theorem xZpQ (t : GT) : 1 ≤ t.dp := by cases t <;> simp [GT.dp]
theorem xZhX : ∀ {bs : List GT} {b : GT}, b ∈ bs → b.dp ≤ GT.dps bs
  | a :: r, b, h => by
    rcases List.mem_cons.1 h with e | h
    · rw [e, GT.dps]; omega
    · have := xZhX h; rw [GT.dps]; omega
theorem xZiM {w : Int} : ∀ {bs : List GT} {b : GT}, GT.oks bs w → b ∈ bs → b.ok w
  | a :: r, b, ho, h => by
    rcases List.mem_cons.1 h with e | h
    · rw [e]; exact ho.1
    · exact xZiM ho.2 h
theorem fl_hd : ∀ (t : GT) {w : Int}, t.ok w → w = 1 ∨ w = 2 → ∃ nd r, t.fl = nd :: r ∧ nd.Kind ≠ w
  | .leaf neg v t o, w, h, hw => ⟨_, _, rfl, by show kL neg ≠ w; cases neg <;> simp only [kL] <;> rcases hw with rfl | rfl <;> decide⟩
  | .rep lo hi a, w, h, hw => ⟨_, _, rfl, by show (3 : Int) ≠ w; omega⟩
  | .lst alt bs, w, h, hw => ⟨_, _, rfl, h.1⟩
section
variable {y : List xZ0} {e : Int}
def BBg (y : List xZ0) (e : Int) (t : GT) : Prop := ∀ (i n : Nat) (d : Int), M y i (t.tk 0) → Nx y (i + (t.tk 0).length) → isT' y (i + (t.tk 0).length) 4 [59] = false → isT' y (i + (t.tk 0).length) 4 [124] = false →
  d + t.dp ≤ 17 → d ≤ 16 → 17 ≤ d + n → SB y e n d i = .inr (t.fl, i + (t.tk 0).length)
def RBg (y : List xZ0) (e : Int) (t : GT) : Prop := ∀ (i n : Nat) (d : Int), M y i (t.tk 0) → Nx y (i + (t.tk 0).length) → isT' y (i + (t.tk 0).length) 4 [59] = false →
  d + t.dp ≤ 17 → d ≤ 16 → 16 ≤ d + n → lsS y 1 [59] (itS y e (SB y e n) d) i = .inr (t.fl, i + (t.tk 0).length)
theorem xZmg {t : GT} (hB : BBg y e t) {i n : Nat} {d : Int} (hm : M y i (brk true (t.tk 0))) (hd : d + t.dp ≤ 16) (hn : 16 ≤ d + n) :
    itS y e (SB y e n) d i = oftR t.fl (oftS y e (i + (brk true (t.tk 0)).length)) := by
  have hp := xZpQ t
  have el : (brk true (t.tk 0)).length = (t.tk 0).length + 2 := by simp [brk]
  obtain ⟨h1, h2⟩ := hm
  obtain ⟨h2, h3⟩ := M_app.1 h2
  have h3 := h3.1
  have hs : ∀ s : List UInt8, s ≠ [41] → isT' y (i + 1 + (t.tk 0).length) 4 s = false := fun s hs => by
    rw [xZT h3]
    have : (([41] : List UInt8) == s) = false := by simpa using fun q : [41] = s => hs q.symm
    rw [this]; rfl
  unfold itS
  rw [if_neg (by rw [xZT h1]; decide), if_pos (by rw [xZT h1]; rfl), if_neg (by omega),
    hB (i + 1) n (d + 1) h2 ⟨hs _ (by decide), hs _ (by decide), hs _ (by decide), hs _ (by decide), hs _ (by decide)⟩ (hs _ (by decide)) (hs _ (by decide)) (by omega) (by omega) (by omega)]
  have e3 : isT' y (i + 1 + (t.tk 0).length) 4 [41] = true := by rw [xZT h3]; rfl
  simp only [e3, if_true, el]
  rw [show i + 1 + (t.tk 0).length + 1 = i + ((t.tk 0).length + 2) by omega]
theorem xZop {v t : List UInt8} {o : Option TT} {f : Int → Nat → RG} {i : Nat} {d : Int} (ho : oK o) (hm : M y i (lfK false v t o)) (hx : isT' y (i + (lfK false v t o).length) 4 [91] = false) :
    itS y e f d i = oftR (GT.leaf false v t o).fl (oftS y e (i + (lfK false v t o).length)) := by
  have hl : (lfK false v t o).length = 3 + (oKt o).length := by simp [lfK]; omega
  rw [hl] at hx ⊢
  have hm : M y i ((1, v, zv) :: sg [58] :: (1, t, zv) :: oKt o) := hm
  have m1 := hm.1
  unfold itS
  rw [if_neg (by rw [xZT m1]; simp), if_neg (by rw [xZT m1]; simp), xZkH ho hm hx]
  rfl
theorem xZpl {v t : List UInt8} {o : Option TT} {f : Int → Nat → RG} {i : Nat} {d : Int} (ho : oK o) (hm : M y i (lfK true v t o)) (hx : isT' y (i + (lfK true v t o).length) 4 [91] = false) :
    itS y e f d i = .inr ((GT.leaf true v t o).fl, i + (lfK true v t o).length) := by
  have hl : (lfK true v t o).length = 1 + (3 + (oKt o).length) := by simp [lfK]; omega
  rw [hl, ← Nat.add_assoc] at hx
  rw [hl, ← Nat.add_assoc]
  have hm : M y i (sg [33] :: (1, v, zv) :: sg [58] :: (1, t, zv) :: oKt o) := hm
  unfold itS
  rw [if_pos (by rw [xZT hm.1]; rfl), xZkH ho hm.2 hx]
  rfl
/-- What is told ahead of a sign that tells how often. -/
theorem core3 {a : GT} (h : a.ok 3) (hB : BBg y e a) {i n : Nat} {d : Int} (hm : M y i (a.tk 3)) (hx : isT' y (i + (a.tk 3).length) 4 [91] = false) (hd : d + a.dp ≤ 16) (hn : 16 ≤ d + n) :
    itS y e (SB y e n) d i = oftR a.fl (oftS y e (i + (a.tk 3).length)) := by
  have hbk := xZlL a 3
  cases a with
  | leaf neg v t o =>
    cases neg with
    | true => exact absurd rfl (h.1 rfl)
    | false =>
      rw [GT.tk] at hm hx ⊢
      exact xZop h.2.2.2 hm hx
  | rep lo hi b =>
    have : (GT.rep lo hi b).isB 3 = true := rfl
    rw [this] at hbk
    rw [hbk] at hm ⊢
    exact xZmg hB hm hd hn
  | lst alt bs =>
    have : (GT.lst alt bs).isB 3 = true := by simp [GT.isB]
    rw [this] at hbk
    rw [hbk] at hm ⊢
    exact xZmg hB hm hd hn
/-- An item without brackets. -/
theorem xZjw {neg : Bool} {v t : List UInt8} {o : Option TT} {f : Int → Nat → RG} {i : Nat} {d : Int} (ho : oK o) (hm : M y i ((GT.leaf neg v t o).tk 0)) (hx : Nx y (i + ((GT.leaf neg v t o).tk 0).length)) :
    itS y e f d i = .inr ((GT.leaf neg v t o).fl, i + ((GT.leaf neg v t o).tk 0).length) := by
  rw [GT.tk] at hm hx ⊢
  cases neg with
  | true => exact xZpl ho hm hx.2.2.2.2
  | false => rw [xZop ho hm hx.2.2.2.2, xZhU hx]; rfl
theorem xZlU {lo hi : Int} {a : GT} {w : Int} (h : (GT.rep lo hi a).ok w) (hB : BBg y e a) {i n : Nat} {d : Int} (hm : M y i ((GT.rep lo hi a).tk 0)) (hd : d + (GT.rep lo hi a).dp ≤ 17) (hn : 16 ≤ d + n) :
    itS y e (SB y e n) d i = .inr ((GT.rep lo hi a).fl, i + ((GT.rep lo hi a).tk 0).length) := by
  have e0 : (GT.rep lo hi a).tk 0 = a.tk 3 ++ timK lo hi := by rw [GT.tk]; rfl
  rw [e0] at hm ⊢
  obtain ⟨m1, m2⟩ := M_app.1 hm
  obtain ⟨o1, o2⟩ := xZnu (e := e) h.1 m2
  have hdp : (GT.rep lo hi a).dp = a.dp + 1 := by rw [GT.dp]
  rw [core3 h.2 hB m1 o2 (by omega) hn, o1, List.length_append, ← Nat.add_assoc]
  rfl
def spB (alt : Bool) : List UInt8 := if alt then [124] else [59]
theorem xZkq {alt : Bool} : ∀ (bs : List GT) (j : Nat), M y j (GT.tkr bs alt) → bs.length ≤ y.length - j
  | [], j, _ => Nat.zero_le _
  | a :: r, j, hm => by
    rw [GT.tkr] at hm
    obtain ⟨h1, h2⟩ := M_app.1 hm
    have hl := ke_lt (by decide) h1.1
    have := xZkq r _ h2
    simp only [List.length_cons] at this ⊢
    omega
theorem xZkC {alt : Bool} {f : Nat → RG} {E : Nat → Prop} (hE : ∀ j, E j → isT' y j 4 (spB alt) = false) : ∀ (bs : List GT) (m j : Nat) (s : Int × List xZ2), GT.oks bs (kA alt) →
    (∀ b ∈ bs, ∀ i, M y i (b.tk (kA alt)) → (ke (tk y (i + (b.tk (kA alt)).length)) = sg (spB alt) ∨ E (i + (b.tk (kA alt)).length)) → f i = .inr (b.fl, i + (b.tk (kA alt)).length)) →
    M y j (GT.tkr bs alt) → E (j + (GT.tkr bs alt).length) → bs.length ≤ m → lpS y (kA alt) (spB alt) f m s j = .inr (hdN (kA alt) (s.1 + bs.length, s.2 ++ GT.fls bs), j + (GT.tkr bs alt).length)
  | [], m, j, s, _, _, _, he, _ => by
    have := hE j he
    rw [xZiD (by rw [this]; decide)]
    simp [GT.fls, GT.tkr]
  | b :: r, 0, j, s, _, _, _, _, hl => by simp at hl
  | b :: r, m + 1, j, s, ho, hf, hm, he, hl => by
    rw [GT.tkr] at hm he
    obtain ⟨h1, h2⟩ := M_app.1 hm
    obtain ⟨h0, h1⟩ := h1
    simp only [List.length_cons] at h2
    have hsep : isT' y j 4 (spB alt) = true := by rw [xZT h0]; cases alt <;> rfl
    have hnext : ke (tk y (j + 1 + (b.tk (kA alt)).length)) = sg (spB alt) ∨ E (j + 1 + (b.tk (kA alt)).length) := by
      cases r with
      | nil =>
        right
        simp only [GT.tkr, List.append_nil, List.length_cons] at he
        rwa [show j + ((b.tk (kA alt)).length + 1) = j + 1 + (b.tk (kA alt)).length by omega] at he
      | cons c r =>
        left
        rw [GT.tkr] at h2
        have := (M_app.1 h2).1.1
        rwa [show j + ((b.tk (kA alt)).length + 1) = j + 1 + (b.tk (kA alt)).length by omega] at this
    have hb := hf b (List.mem_cons_self ..) (j + 1) h1 hnext
    obtain ⟨nd, q, q1, q2⟩ := fl_hd b ho.1 (by cases alt <;> decide)
    have hadd : addG (kA alt) s b.fl = (s.1 + 1, s.2 ++ b.fl) := by rw [q1, addG, if_neg q2]
    rw [lpS, if_pos hsep, hb]
    show lpS y (kA alt) (spB alt) f m (addG (kA alt) s b.fl) (j + 1 + (b.tk (kA alt)).length) = _
    rw [hadd, xZkC hE r m _ _ ho.2 (fun c hc => hf c (List.mem_cons_of_mem _ hc)) (by rwa [show j + 1 + (b.tk (kA alt)).length = j + ((b.tk (kA alt)).length + 1) by omega])
      (by simp only [List.length_append, List.length_cons] at he; rwa [show j + 1 + (b.tk (kA alt)).length + (GT.tkr r alt).length = j + ((b.tk (kA alt)).length + 1 + (GT.tkr r alt).length) by omega]) (by simp only [List.length_cons] at hl; omega)]
    simp only [GT.fls, GT.tkr, List.length_cons, List.length_append, List.append_assoc]
    rw [show s.1 + 1 + (r.length : Int) = s.1 + ((r.length + 1 : Nat) : Int) by omega, show j + 1 + (b.tk (kA alt)).length + (GT.tkr r alt).length = j + ((b.tk (kA alt)).length + 1 + (GT.tkr r alt).length) by omega]
theorem xZkD {alt : Bool} {f : Nat → RG} {E : Nat → Prop} (hE : ∀ j, E j → isT' y j 4 (spB alt) = false) {bs : List GT} {i : Nat} (hl : 2 ≤ bs.length) (ho : GT.oks bs (kA alt))
    (hf : ∀ b ∈ bs, ∀ i, M y i (b.tk (kA alt)) → (ke (tk y (i + (b.tk (kA alt)).length)) = sg (spB alt) ∨ E (i + (b.tk (kA alt)).length)) → f i = .inr (b.fl, i + (b.tk (kA alt)).length))
    (hm : M y i ((GT.tkr bs alt).drop 1)) (he : E (i + ((GT.tkr bs alt).drop 1).length)) : lsS y (kA alt) (spB alt) f i = .inr ((GT.lst alt bs).fl, i + ((GT.tkr bs alt).drop 1).length) := by
  obtain ⟨a, b, r, rfl⟩ : ∃ a b r, bs = a :: b :: r := by
    match bs, hl with
    | a :: b :: r, _ => exact ⟨a, b, r, rfl⟩
  have e0 : (GT.tkr (a :: b :: r) alt).drop 1 = a.tk (kA alt) ++ GT.tkr (b :: r) alt := by rw [GT.tkr]; rfl
  rw [e0] at hm he ⊢
  obtain ⟨h1, h2⟩ := M_app.1 hm
  have hsg : ke (tk y (i + (a.tk (kA alt)).length)) = sg (spB alt) := by
    rw [GT.tkr] at h2
    exact (M_app.1 h2).1.1
  have ha := hf a (List.mem_cons_self ..) i h1 (.inl hsg)
  have hsep : isT' y (i + (a.tk (kA alt)).length) 4 (spB alt) = true := by rw [xZT hsg]; cases alt <;> rfl
  obtain ⟨nd, q, q1, q2⟩ := fl_hd a ho.1 (by cases alt <;> decide)
  have hadd : addG (kA alt) (0, []) a.fl = (1, a.fl) := by rw [q1, addG, if_neg q2]; simp
  unfold lsS
  rw [ha]
  simp only [hsep, if_true, hadd]
  rw [xZkC hE (b :: r) _ _ _ ho.2 (fun c hc => hf c (List.mem_cons_of_mem _ hc)) h2 (by rw [List.length_append] at he; rwa [Nat.add_assoc]) (xZkq _ _ h2)]
  simp only [GT.fl, hdN, List.length_append, Nat.add_assoc]
  rw [show (1 : Int) + ((b :: r).length : Int) = ((a :: b :: r).length : Int) by simp only [List.length_cons]; omega]
  rfl
end
end
section
def GT.isL : GT → Bool
  | .lst .. => true
  | _ => false
section
variable {y : List xZ0} {e : Int}
def IBg (y : List xZ0) (e : Int) (t : GT) : Prop := ∀ (i n : Nat) (d : Int), M y i (t.tk 0) → Nx y (i + (t.tk 0).length) → d + t.dp ≤ 17 → 16 ≤ d + n → itS y e (SB y e n) d i = .inr (t.fl, i + (t.tk 0).length)
def PGr (y : List xZ0) (e : Int) (t : GT) : Prop := (t.isL = false → IBg y e t) ∧ (t.isA = false → RBg y e t) ∧ BBg y e t
theorem xZjh {t : GT} (h : IBg y e t) : RBg y e t := fun i n d hm hx h59 h1 h2 h3 => by
  unfold lsS
  rw [h i n d hm hx h1 h3]
  simp only [h59, Bool.false_eq_true, if_false]
theorem xZlp {t : GT} (h : RBg y e t) : BBg y e t := fun i n d hm hx h59 h124 h1 h2 h3 => by
  obtain ⟨n, rfl⟩ : ∃ k, n = k + 1 := ⟨n - 1, by omega⟩
  show lsS y 2 [124] (lsS y 1 [59] (itS y e (SB y e n) d)) i = _
  unfold lsS
  have := h i n d hm hx h59 h1 h2 (by omega)
  unfold lsS at this
  rw [this]
  simp only [h124, Bool.false_eq_true, if_false]
theorem Nx_sg {j : Nat} {s : List UInt8} (h : ke (tk y j) = sg s) (h1 : s = [59] ∨ s = [124]) : Nx y j := by
  rcases h1 with rfl | rfl <;> exact ⟨by rw [xZT h]; rfl, by rw [xZT h]; rfl, by rw [xZT h]; rfl, by rw [xZT h]; rfl, by rw [xZT h]; rfl⟩
theorem xZow (alt : Bool) (bs : List GT) : (GT.lst alt bs).tk 0 = (GT.tkr bs alt).drop 1 := by
  rw [GT.tk]
  have : decide ((0 : Int) = 3 ∨ ((0 : Int) = 1 ∧ alt = true)) = false := decide_eq_false (by omega)
  rw [this]; rfl
theorem kid1 {t : GT} (h : t.ok 1) (hp : PGr y e t) {i n : Nat} {d : Int} (hm : M y i (t.tk 1)) (hx : Nx y (i + (t.tk 1).length)) (hd : d + t.dp ≤ 16) (hn : 16 ≤ d + n) :
    itS y e (SB y e n) d i = .inr (t.fl, i + (t.tk 1).length) := by
  have hbk := xZlL t 1
  cases t with
  | leaf neg v u o =>
    have : (GT.leaf neg v u o).isB 1 = false := rfl
    rw [this] at hbk
    have hbk : (GT.leaf neg v u o).tk 1 = (GT.leaf neg v u o).tk 0 := hbk
    rw [hbk] at hm hx ⊢
    exact hp.1 rfl i n d hm hx (by omega) hn
  | rep lo hi a =>
    have : (GT.rep lo hi a).isB 1 = false := rfl
    rw [this] at hbk
    have hbk : (GT.rep lo hi a).tk 1 = (GT.rep lo hi a).tk 0 := hbk
    rw [hbk] at hm hx ⊢
    exact hp.1 rfl i n d hm hx (by omega) hn
  | lst alt bs =>
    cases alt with
    | false => exact absurd rfl h.1
    | true =>
      have : (GT.lst true bs).isB 1 = true := rfl
      rw [this] at hbk
      rw [hbk] at hm hx ⊢
      rw [xZmg hp.2.2 hm hd hn, xZhU hx]
      rfl
theorem xZo3 {neg : Bool} {v t : List UInt8} {o : Option TT} (ho : oK o) : PGr y e (.leaf neg v t o) := by
  have h1 : IBg y e (.leaf neg v t o) := fun i n d hm hx _ _ => xZjw ho hm hx
  exact ⟨fun _ => h1, fun _ => xZjh h1, xZlp (xZjh h1)⟩
theorem xZq1 {lo hi : Int} {a : GT} {w : Int} (h : (GT.rep lo hi a).ok w) (ha : PGr y e a) : PGr y e (.rep lo hi a) := by
  have h1 : IBg y e (.rep lo hi a) := fun i n d hm hx hd hn => xZlU h ha.2.2 hm hd hn
  exact ⟨fun _ => h1, fun _ => xZjh h1, xZlp (xZjh h1)⟩
theorem xZoN {alt : Bool} {bs : List GT} {w : Int} (h : (GT.lst alt bs).ok w) (hb : ∀ b ∈ bs, PGr y e b) : PGr y e (.lst alt bs) := by
  have hdp : (GT.lst alt bs).dp = GT.dps bs + 1 := by rw [GT.dp]
  obtain ⟨g1, g2, g3, g4⟩ := h
  cases alt with
  | false =>
    have hR : RBg y e (.lst false bs) := fun i n d hm hx h59 h1 h2 h3 => by
      rw [xZow] at hm hx h59 ⊢
      refine xZkD (alt := false) (E := fun j => Nx y j ∧ isT' y j 4 [59] = false) (fun j hj => hj.2) g2 g4 (fun b hbm j hm' hn' => ?_) hm ⟨hx, h59⟩
      have hbd := xZhX hbm
      exact kid1 (xZiM g4 hbm) (hb b hbm) hm' (hn'.elim (fun q => Nx_sg q (.inl rfl)) fun q => q.1) (by omega) h3
    exact ⟨fun q => (by cases q), fun _ => hR, xZlp hR⟩
  | true =>
    refine ⟨fun q => (by cases q), fun q => (by cases q), fun i n d hm hx h59 h124 h1 h2 h3 => ?_⟩
    obtain ⟨n, rfl⟩ : ∃ k, n = k + 1 := ⟨n - 1, by omega⟩
    rw [xZow] at hm hx h59 h124 ⊢
    show lsS y 2 [124] (lsS y 1 [59] (itS y e (SB y e n) d)) i = _
    refine xZkD (alt := true) (E := fun j => Nx y j ∧ isT' y j 4 [59] = false ∧ isT' y j 4 [124] = false) (fun j hj => hj.2.2) g2 g4 (fun b hbm j hm' hn' => ?_) hm ⟨hx, h59, h124⟩
    have hbd := xZhX hbm
    have hbo : b.ok 2 := xZiM g4 hbm
    have hbk := xZlL b 2
    have hB : b.isB 2 = false ∧ b.isA = false := by
      cases b with
      | leaf neg v t o => exact ⟨rfl, rfl⟩
      | rep lo hi a => exact ⟨rfl, rfl⟩
      | lst alt' bs' =>
        cases alt' with
        | true => exact absurd rfl hbo.1
        | false => exact ⟨rfl, rfl⟩
    rw [hB.1] at hbk
    have hbk : b.tk 2 = b.tk 0 := hbk
    have hk2 : b.tk (kA true) = b.tk 0 := hbk
    rw [hk2] at hm' hn' ⊢
    refine (hb b hbm).2.1 hB.2 j n d hm' ?_ ?_ (by omega) h2 (by omega)
    · exact hn'.elim (fun q => Nx_sg q (.inr rfl)) fun q => q.1
    · exact hn'.elim (fun q => by rw [xZT q]; rfl) fun q => q.2.1
mutual
theorem pg_g : ∀ (t : GT) (w : Int), t.ok w → PGr y e t
  | .leaf neg v t o, w, h => xZo3 h.2.2.2
  | .rep lo hi a, w, h => xZq1 h (pg_g a 3 h.2)
  | .lst alt bs, w, h => xZoN h (pg_gs bs (kA alt) h.2.2.2)
theorem pg_gs : ∀ (bs : List GT) (w : Int), GT.oks bs w → ∀ b ∈ bs, PGr y e b
  | [], w, _, b, hb => by cases hb
  | a :: r, w, h, b, hb => by
    rcases List.mem_cons.1 hb with q | hb
    · rw [q]; exact pg_g a w h.1
    · exact pg_gs r w h.2 b hb
end
end
end
theorem wd_eq {a m : Int} (h1 : 1 ≤ a) (h2 : a ≤ 3) (h3 : m = 1 ∨ m = 2 ∨ m = 3) : (wdS m == wdS a) = decide (a = m) := by
  rcases (show a = 1 ∨ a = 2 ∨ a = 3 by omega) with rfl | rfl | rfl <;> rcases h3 with rfl | rfl | rfl <;> rfl
theorem xZmM {y : List xZ0} {e m : Int} {q : Nat} (hy : y.length ≤ 700) (hq : q ≤ y.length) (hm : m = 1 ∨ m = 2 ∨ m = 3) (hk : ke (tk y q) = kw (wdS m)) : W (fun N => xZ18 N y q e) (· = .inl (m, y, ((q + 1 : Nat) : Int), e)) := by
  simp only [xZ18]
  refine W.lp4 (P := fun v0 v1 v2 v3 => 1 ≤ v0 ∧ v0 ≤ m ∧ v1 = y ∧ v2 = (q : Int) ∧ v3 = e) (m := fun v0 _ _ _ => (m - v0).toNat) ⟨by omega, by omega, rfl, rfl, rfl⟩ ?_
  rintro F v0 v1 v2 v3 ⟨h1, h2, rfl, rfl, rfl⟩ hn
  have h3 : v0 ≤ 3 := by omega
  have hs : isT' v1 q 2 (wdS v0) = decide (v0 = m) := by rw [xZT hk, wd_eq h1 h3 hm]; rfl
  simp only [xZ2d, show leB v0 3 = true from xZ14.2 h3, cond_true, e_wd, Option.bind_some, xZ99 (y := v1) (i := q) (e := v3) (show (2 : Int) ≠ 0 by decide) _ (show q ≤ 1000000 by omega), hs]
  by_cases hv : v0 = m
  · subst hv
    simp only [decide_true, if_true, cond_true, W.ret]
  · simp only [decide_eq_false hv, Bool.false_eq_true, if_false, cond_false]
    have hw : IntKind.u8.wrap (v0 + 1) = v0 + 1 := by
      rcases (show v0 = 1 ∨ v0 = 2 ∨ v0 = 3 by omega) with rfl | rfl | rfl <;> rfl
    rw [hw]
    exact hn _ _ _ _ ⟨by omega, by omega, rfl, rfl, rfl⟩ (by omega)
theorem Nx_kw {y : List xZ0} {j : Nat} {s : List UInt8} (h : ke (tk y j) = kw s) (u : List UInt8) : isT' y j 4 u = false := by rw [xZT h]; rfl
theorem xZq9 {y : List xZ0} {e wi m : Int} {b : List UInt8} {t : GT} (hy : y.length ≤ 700) (ht : t.ok 0) (hdp : t.dp ≤ 16) (h4 : m = 1 ∨ m = 2 ∨ m = 3) (hb : b = [] ∨ nm b = true)
    (hm : M y 0 (t.tk 0 ++ btK wi b m)) (hl : y.length = (t.tk 0 ++ btK wi b m).length) : W (fun N => xZm N y 0 e) (fun r => ∃ j : Int, r = .inl (⟨t.fl, wi, b, m⟩, y, j, e)) := by
  obtain ⟨m1, m2⟩ := M_app.1 hm
  rw [Nat.zero_add] at m2
  obtain ⟨k1, k2, m3⟩ := m2
  rw [List.length_append] at hl
  have hP := (pg_g (y := y) (e := e) t 0 ht).2.2 0 17 0 m1 (by rw [Nat.zero_add]; exact ⟨Nx_kw k1 _, Nx_kw k1 _, Nx_kw k1 _, Nx_kw k1 _, Nx_kw k1 _⟩) (by rw [Nat.zero_add]; exact Nx_kw k1 _) (by rw [Nat.zero_add]; exact Nx_kw k1 _) (by omega) (by omega) (by omega)
  rw [Nat.zero_add] at hP
  have hg := g_all (e := e) hy 17 0 0 (by omega) (by omega) (by omega) (Nat.zero_le _)
  rw [hP] at hg
  simp only [xZm]
  refine W.call (show W (fun N => xZ2G N 0 y 0 e) _ from hg) ?_
  intro r hr
  have hr : r = .inl (t.fl, y, (((t.tk 0).length : Nat) : Int), e) := hr
  subst hr
  generalize (t.tk 0).length = L at *
  have hbl : 3 ≤ (btK wi b m).length := by simp only [btK, List.length_cons, List.length_append, List.length_nil]; omega
  have hw : isT' y L 2 [119, 105, 116, 104, 105, 110] = true := by rw [xZT k1]; rfl
  simp only [Sum.elim_inl, xZ9K (y := y) (i := L) (e := e) (show (2 : Int) ≠ 0 by decide) _ (show L ≤ 1000000 by omega), if_pos hw, Option.bind_some, xZm7 (y := y) (i := L + 1) (e := e) (show L + 1 ≤ 1000000 by omega), xZj2 k2,
    xZ99 (y := y) (i := L + 1 + 1) (e := e) (show (2 : Int) ≠ 0 by decide) _ (show L + 1 + 1 ≤ 1000000 by omega)]
  by_cases hbe : b = []
  · subst hbe
    rw [if_pos rfl, List.nil_append] at m3
    have k3 := m3.1
    have hby : isT' y (L + 1 + 1) 2 [98, 121] = false := by
      rw [xZT k3]
      rcases h4 with rfl | rfl | rfl <;> rfl
    have hlen : y.length = L + 3 := by rw [hl]; simp [btK]
    simp only [hby, Bool.false_eq_true, if_false, cond_false]
    refine W.call (xZmM hy (by omega) h4 k3) ?_
    rintro _ rfl
    have hlt : ltB ((L + 1 + 1 + 1 : Nat) : Int) (y.length : Int) = false := by rw [xZ7S]; exact decide_eq_false (by omega)
    simp only [Sum.elim_inl, hlt, cond_false, W.ret]
    exact ⟨_, rfl⟩
  · rw [if_neg hbe] at m3
    obtain ⟨k3, k4, k5, _⟩ := m3
    have hby : isT' y (L + 1 + 1) 2 [98, 121] = true := by rw [xZT k3]; rfl
    have hlen : y.length = L + 5 := by rw [hl]; simp [btK, hbe]
    have n1 : (tk y (L + 1 + 1 + 1)).Kind = 1 := congrArg (·.1) k4
    have n2 : (tk y (L + 1 + 1 + 1)).Text = b := congrArg (·.2.1) k4
    simp only [hby, if_true, cond_true, xZfm (y := y) (i := L + 1 + 1 + 1) (e := e) (show L + 1 + 1 + 1 ≤ 1000000 by omega), if_pos n1, n2, Option.bind_some, Sum.elim_inl]
    refine W.call (xZmM hy (by omega) h4 k5) ?_
    rintro _ rfl
    have hlt : ltB ((L + 1 + 1 + 1 + 1 + 1 : Nat) : Int) (y.length : Int) = false := by rw [xZ7S]; exact decide_eq_false (by omega)
    simp only [Sum.elim_inl, hlt, cond_false, W.ret]
    exact ⟨_, rfl⟩
theorem W.both {ι : Type} [Lim ι] {α : Type} {q : EqR α} {f g : ι → Option α} {r : α} (h1 : W f (· = r)) (h2 : W g (· = r)) : W (fun i => Go.Proofs.YtahklhniofiofaaGreatDoor.B.both q (f i) (g i)) (· = r) := by
  exact ⟨r, Lim.mono (fun i h => by show Go.Proofs.YtahklhniofiofaaGreatDoor.B.both q (f i) (g i) = Option.some r; rw [h.1, h.2]; exact xZk4 rfl) (Lim.and h1.tl h2.tl), rfl⟩
def ptT (p : xZ6) (t : GT) : List UInt8 := t.tx 0 ++ btT p.Within p.By p.Mode
/-- A pattern's text is printed. -/
theorem xZjC {p : xZ6} {t : GT} (hc : chkG p = 0) (hl : p.Body.length ≤ 40) (h1 : 1 ≤ p.Within) (h2 : p.Within ≤ 1073741824) (hb : p.By = [] ∨ nm p.By = true) (hm : p.Mode = 1 ∨ p.Mode = 2 ∨ p.Mode = 3) (ht : t.ok 0) (hf : p.Body = t.fl) : W (fun N => xZ4g N p) (· = ptT p t) := by
  have hpr : W (fun N => xZ2S N 0 p.Body p.Within p.By p.Mode 0) (· = (t.tx 0, p.Body, p.Within, p.By, p.Mode, ((0 + t.fl.length : Nat) : Int))) := pr_g (y := p.Body) hl t 0 ht 0 [] (by rw [hf]; simp)
  have htl := xZk3 t 0 ht
  have hfl : t.fl.length ≤ 40 := by rw [← hf]; exact hl
  have hd := xZio (show 0 ≤ p.Within by omega) h2
  have hbl : p.By.length ≤ 12 := by
    rcases hb with h | h
    · rw [h]; simp
    · exact (xZcs h).1
  have hwl : (wdS p.Mode).length ≤ 6 := by rcases hm with h | h | h <;> rw [h] <;> decide
  simp only [xZ4g]
  refine W.call (xZaf p) ?_
  rintro _ rfl
  simp only [hc, show ((0 : Int) != 0) = false from rfl, cond_false, e_wd, Option.bind_some]
  refine W.both ?_ ?_
  all_goals
    refine W.call hpr ?_
    rintro _ rfl
    simp only [gN (show (t.tx 0).length + 8 ≤ 1000000 by omega), xZ1b]
    refine W.call (w_dg (show 0 ≤ p.Within by omega) h2) ?_
    rintro _ rfl
    simp only [gN (show (t.tx 0 ++ [32, 119, 105, 116, 104, 105, 110, 32]).length + (dg p.Within).length ≤ 1000000 by simp; omega), xZ1b]
    by_cases hbe : p.By = []
    · simp only [hbe, show (!(([] : List UInt8) == [])) = false from rfl, cond_false]
      simp only [gN (show (t.tx 0 ++ [32, 119, 105, 116, 104, 105, 110, 32] ++ dg p.Within).length + 1 ≤ 1000000 by simp; omega), gN (show (t.tx 0 ++ [32, 119, 105, 116, 104, 105, 110, 32] ++ dg p.Within ++ [32]).length + (wdS p.Mode).length ≤ 1000000 by simp; omega), xZ1b, W.ret]
      simp [ptT, btT, hbe]
    · simp only [show (!(p.By == [])) = true by simpa using hbe, cond_true]
      simp only [gN (show 4 + p.By.length ≤ 1000000 by omega), gN (show (t.tx 0 ++ [32, 119, 105, 116, 104, 105, 110, 32] ++ dg p.Within).length + (p.By.length + 4) ≤ 1000000 by simp; omega),
        gN (show (t.tx 0 ++ [32, 119, 105, 116, 104, 105, 110, 32] ++ dg p.Within ++ (32 :: 98 :: 121 :: 32 :: p.By)).length + 1 ≤ 1000000 by simp; omega),
        gN (show (t.tx 0 ++ [32, 119, 105, 116, 104, 105, 110, 32] ++ dg p.Within ++ (32 :: 98 :: 121 :: 32 :: p.By) ++ [32]).length + (wdS p.Mode).length ≤ 1000000 by simp; omega), xZ1b, W.ret]
      simp [ptT, btT, hbe]
section
open Go Classical
/-- A loop that holds two lists of one length against each other. -/
theorem w_eqs {ι : Type} [Lim ι] {β : Type} {a b : List β} (hab : a.length = b.length) (hl : a.length ≤ 1000000000) {f : ι → (Int → Option Bool) → Int → Option Bool} {N : ι → Nat} [Tends N]
    (step : ∀ (F : ι × Nat → Int → Option Bool) (i : Int) (e g : β), ix a i = some e → ix b i = some g → ltB i (a.length : Int) = true → i64b (i + 1) = true → (e ≠ g → W (fun p : ι × Nat => f p.1 (F p) i) (· = false)) ∧ (e = g → ∀ r, W (fun p => F p (i + 1)) (· = r) → W (fun p : ι × Nat => f p.1 (F p) i) (· = r)))
    (done : ∀ (F : ι × Nat → Int → Option Bool), ltB (a.length : Int) (a.length : Int) = false → W (fun p : ι × Nat => f p.1 (F p) (a.length : Int)) (· = true)) :
    W (fun i => lp1 (f i) (N i) 0) (· = decide (a = b)) := by
  refine wr1 (l := a) (fun pre rest => decide (rest = b.drop pre.length)) [] a rfl rfl (by omega) ?_ ?_
  · intro F pre e rest hl' h1 h2 h3 hn
    have hlen := congrArg List.length hl'
    simp only [List.length_append, List.length_cons] at hlen
    have hlt : pre.length < b.length := by omega
    have hd : b.drop pre.length = b[pre.length] :: b.drop (pre.length + 1) := List.drop_eq_getElem_cons hlt
    have hg : ix b (pre.length : Int) = some b[pre.length] := by rw [ix_nat']; exact List.getElem?_eq_getElem hlt
    rw [List.length_append, List.length_singleton] at hn
    obtain ⟨k1, k2⟩ := step F _ e _ h2 hg h1 h3
    by_cases he : e = b[pre.length]
    · have hn' := k2 he _ hn
      rw [hd, ← he]
      refine W.mp hn' fun r hr => ?_
      rw [hr]
      by_cases h : rest = b.drop (pre.length + 1)
      · rw [decide_eq_true h, decide_eq_true (by rw [h])]
      · rw [decide_eq_false h, decide_eq_false fun h2 => h (List.cons.inj h2).2]
    · refine W.mp (k1 he) fun r hr => ?_
      rw [hr, hd, decide_eq_false fun h => he (List.cons.inj h).1]
  · intro F h1
    refine W.mp (done F h1) fun r hr => ?_
    rw [hr, List.drop_eq_nil_of_le (by omega), decide_eq_true rfl]
theorem xZpB {β : Type} {a b : List β} : ((a.length : Int) != (b.length : Int)) = !decide (a.length = b.length) := by
  by_cases h : a.length = b.length
  · simp [h]
  · simp [h]; omega
theorem xZoe {e g : xZ1} : ((e.Kind == g.Kind) && ((e.Op == g.Op) && ((e.Var == g.Var) && ((e.Name == g.Name) && ((e.Val.Kind == g.Val.Kind) && ((e.Val.N == g.Val.N) && ((e.Val.Bits == g.Val.Bits) && (e.Val.Text == g.Val.Text)))))))) = decide (e = g) := by
  obtain ⟨k, o, v, n, w⟩ := e
  obtain ⟨k', o', v', n', w'⟩ := g
  cases w; cases w'
  rw [Bool.eq_iff_iff]
  simp [Bool.and_eq_true]
end
section
open Go Classical
theorem xZmD (a b : List xZ1) (hl : a.length ≤ 1000000000) : W (fun N => xZ7D N a b) (· = decide (a = b)) := by
  simp only [xZ7D]
  refine wid.2 ?_
  simp only [xZ34, xZpB, W.cond, W.ret]
  refine ⟨fun h => ?_, fun h => ?_⟩
  · have h : ¬ a.length = b.length := by simpa using h
    rw [decide_eq_false (fun he => h (by rw [he]))]
  · refine w_eqs (by simpa using h) hl (fun F i e g h1 h2 h3 h4 => ?_) (fun F h => ?_)
    · simp only [xZ1U, h1, h2, h3, h4, Option.bind_some, cond_true, xZ1b, xZoe]
      refine ⟨fun he => ?_, fun he r hr => ?_⟩
      · simp only [decide_eq_false he, Bool.not_false, cond_true]; exact W.ret.2 rfl
      · simp only [decide_eq_true he, Bool.not_true, cond_false]; exact hr
    · simp only [xZ1U, h, cond_false]; exact W.ret.2 rfl
end
section
open Go Classical
theorem xZn8 (v : xZ4) (hv : okS v.Text) : W (fun N => xZ6j N v) fun r => ¬ 0 < r → v.Text.length ≤ 100 := by
  have := xZp2 hv
  simp only [xZ6j, W.gd, W.ret, xZJ]
  exact ⟨by omega, fun h => by omega⟩
theorem xZpt (l : List xZ1) (hl : l.length ≤ 10000) : W (fun N => xZ9h N l) (· = l) := by
  simp only [xZ9h]
  refine wf2a (l := l) (fun pre ys => ys = pre) [] rfl rfl (by omega) rfl ?_ ?_
  · rintro F pre e rest ys hl' h1 h2 h3 rfl hn
    simp only [xZ6z, h1, h2, h3, Option.bind_some, cond_true, W.gd, true_and]
    refine ⟨Nat.ble_eq_true_of_le (by rw [hl'] at hl; simp at hl; omega), hn _ rfl⟩
  · rintro F ys h1 rfl
    simp only [xZ6z, h1, cond_false, W.ret]
theorem xZmY (l : List xZ1) (hl : okL (fun n : xZ1 => okS n.Val.Text) l) : W (fun N => xZ8d N l) fun b => ¬ 0 < b → l.length ≤ 40 ∧ ∀ n ∈ l, n.Var.length ≤ 40 ∧ n.Name.length ≤ 40 ∧ n.Val.Text.length ≤ 100 := by
  have hlen : l.length ≤ 9223372036854775807 := hl.2
  simp only [xZ8d, W.cond, W.ret, xZY, xZ1L]
  refine ⟨fun h h2 => absurd (by omega) h2, fun h => ?_⟩
  refine wf1 (l := l) (fun pre => ∀ n ∈ pre, n.Var.length ≤ 40 ∧ n.Name.length ≤ 40 ∧ n.Val.Text.length ≤ 100) [] rfl rfl (by omega) (by simp) ?_ ?_
  · intro F pre e rest hl' h1 h2 h3 hp hn
    have he := hl.1 e (by rw [hl']; simp)
    simp only [xZ5q, h1, h2, h3, Option.bind_some, cond_true, W.cond, W.ret, xZ1b, xZY, xZ1L]
    refine ⟨fun _ h => absurd (by omega) h, fun h40 => ⟨fun _ h => absurd (by omega) h, fun h41 => ?_⟩⟩
    refine W.call (xZn8 e.Val he) fun b hb => ?_
    simp only [W.cond, W.ret, xZY, xZ1L]
    refine ⟨fun _ h => absurd (by omega) h, fun hb0 => hn fun t ht => ?_⟩
    rcases List.mem_append.1 ht with ht | ht
    · exact hp t ht
    · rw [List.mem_singleton.1 ht]; exact ⟨by omega, by omega, hb (by omega)⟩
  · intro F h1 hp
    simp only [xZ5q, h1, cond_false, W.ret]
    exact fun _ => ⟨by omega, hp⟩
theorem xZnj (p : xZ6) (hp : xZ4o p) : W (fun N => xZ8m N p) fun b => ¬ 0 < b → p.Body.length ≤ 50 ∧ p.By.length ≤ 40 ∧ ∀ n ∈ p.Body, n.Test.length ≤ 40 := by
  have hlen : p.Body.length ≤ 9223372036854775807 := hp.1.2
  simp only [xZ8m, W.cond, W.ret, xZY, xZ1L]
  refine ⟨fun h h2 => absurd (by omega) h2, fun h => ⟨fun h' h2 => absurd (by omega) h2, fun h' => ?_⟩⟩
  refine wf1 (l := p.Body) (fun pre => ∀ n ∈ pre, n.Test.length ≤ 40) [] rfl rfl (by omega) (by simp) ?_ ?_
  · intro F pre e rest hl' h1 h2 h3 hq hn
    have he := hp.1.1 e (by rw [hl']; simp)
    have ht := he.2.2.2.2.2.2
    simp only [xZ5f, h1, h2, h3, Option.bind_some, cond_true, W.cond, W.ret, xZ1b, xZY, xZ1L]
    refine ⟨fun _ h => absurd (by omega) h, fun h40 => ⟨fun _ h => absurd (by omega) h, fun h41 => ?_⟩⟩
    refine W.call (xZmY e.Test ⟨fun n hn => (ht.1 n hn).2.2.2.2.2.2.2, ht.2⟩) fun b hb => ?_
    simp only [W.cond, W.ret, xZY, xZ1L]
    refine ⟨fun _ h => absurd (by omega) h, fun hb0 => hn fun t ht => ?_⟩
    rcases List.mem_append.1 ht with ht | ht
    · exact hq t ht
    · rw [List.mem_singleton.1 ht]; exact (hb (by omega)).1
  · intro F h1 hq
    simp only [xZ5f, h1, cond_false, W.ret]
    exact fun _ => ⟨by omega, by omega, hq⟩
theorem xZpA (p : xZ6) (h50 : p.Body.length ≤ 50) (ht : ∀ n ∈ p.Body, n.Test.length ≤ 40) : W (fun N => xZ9j N p) (· = p) := by
  simp only [xZ9j]
  refine wf2a (l := p.Body) (fun pre ys => ys = pre) [] rfl rfl (by omega) rfl ?_ ?_
  · rintro F pre e rest ys hl' h1 h2 h3 rfl hn
    simp only [xZ6u, h1, h2, Option.bind_some, cond_true]
    refine W.call (xZpt e.Test (by have := ht e (by rw [hl']; simp); omega)) ?_
    rintro _ rfl
    simp only [h3, W.gd, true_and]
    exact ⟨Nat.ble_eq_true_of_le (by rw [hl'] at h50; simp at h50; omega), hn _ rfl⟩
  · rintro F ys h1 rfl
    simp only [xZ6u, h1, cond_false, W.ret]
theorem xZlC (p : xZ6) (h50 : p.Body.length ≤ 50) (ht : ∀ n ∈ p.Body, n.Test.length ≤ 40) : W (fun N => xZ82 N p p) (· = true) := by
  have e1 : ∀ a : Int, (a == a) = true := fun a => by simp
  have e2 : ∀ a : List UInt8, (a == a) = true := fun a => by simp
  have hne : ((List.length p.Body : Int) != (List.length p.Body : Int)) = false := by simp
  simp only [xZ82, e1, e2, cond_true, xZ1p, hne, cond_false]
  refine wid.2 ?_
  refine wf1 (l := p.Body) (fun _ => True) [] rfl rfl (by omega) trivial ?_ ?_
  · intro F pre e rest hl' h1 h2 h3 _ hn
    simp only [xZN, h1, h2, Option.bind_some, cond_true, xZ9A, e1, e2]
    refine W.call (f := fun N => (xZ7D N e.Test e.Test).bind fun same => some same) (P := (· = true)) (wid.2 ((xZmD e.Test e.Test (by have := ht e (by rw [hl']; simp); omega)).mp fun a h => by rw [h]; exact decide_eq_true rfl)) ?_
    rintro _ rfl
    simp only [Bool.not_true, cond_false, h3, xZ1b]
    exact hn trivial
  · intro F h1 _
    simp only [xZN, h1, cond_false, W.ret]
end
section
open Go Classical
theorem xZol : W (fun N => xZ2c N) fun r => r = true := ⟨true, ⟨300, fun N hN => by
  simp only [xZ2c, Nat.ble_eq_true_of_le hN, cond_true]⟩, rfl⟩
theorem baw14 {ι : Type} [Lim ι] (N : ι → Nat) [Tends N] : W (fun i => (xZ2c (N i)).bind fun a => some a) (· = true) := wid.2 (xZol.of N)
/-- A pattern's text is read as the pattern, or has too many tokens. -/
theorem xZlv {p : xZ6} {t : GT} (hc : chkG p = 0) (h1 : 1 ≤ p.Within) (h2 : p.Within ≤ 1073741824) (hb : p.By = [] ∨ nm p.By = true) (hm : p.Mode = 1 ∨ p.Mode = 2 ∨ p.Mode = 3) (ht : t.ok 0) (hd : t.dp ≤ 16) (hf : p.Body = t.fl) (hl : (ptT p t).length ≤ 600) :
    W (fun N => xZ50 N (ptT p t)) (fun r => r = .inl p ∨ ∃ a, r = .inr (⟨[], 0, [], 0⟩, 7, a)) := by
  have hcut : Cut (ptT p t) (t.tk 0 ++ btK p.Within p.By p.Mode) := sc1 (cut_g t 0 ht) (hdD dl32) (xZph h1 h2 hb hm)
  obtain ⟨x1, x2⟩ := hcut [] 0 [] (.inl rfl) (by simp)
  rw [List.append_nil, List.length_nil, Nat.zero_add] at x1 x2
  simp only [xZ50]
  refine W.call (xZq6 (ptT p t) (by omega)) ?_
  rintro _ rfl
  have hsc : scan (ptT p t) = scanR (ptT p t) 0 [] := by rw [scan, if_neg (by omega)]
  rw [hsc]
  by_cases hk : (t.tk 0 ++ btK p.Within p.By p.Mode).length ≤ 200
  · obtain ⟨ms, m1, m2⟩ := x1 hk
    rw [xZgt, List.nil_append] at m2
    have hlen : ms.length = (t.tk 0 ++ btK p.Within p.By p.Mode).length := by rw [← m1, List.length_map]
    have hM : M ms 0 (t.tk 0 ++ btK p.Within p.By p.Mode) := M_of (p := []) (r := ms) rfl (by rw [← hlen, ← List.length_map (f := ke), List.take_length, m1])
    rw [m2]
    simp only [scanE, Sum.elim_inl, xZ1f]
    refine W.bind (P := fun r => ∃ j : Int, r = .inl (⟨t.fl, p.Within, p.By, p.Mode⟩, ms, j, ((ptT p t).length : Int))) (W.bind (show W (fun N => xZm N ms 0 ((ptT p t).length : Int)) _ from xZq9 (by omega) ht hd hm hb hM hlen) ?_) ?_
    · rintro _ ⟨j, rfl⟩
      exact W.ret.2 ⟨j, rfl⟩
    · rintro _ ⟨j, rfl⟩
      have hp : (⟨t.fl, p.Within, p.By, p.Mode⟩ : xZ6) = p := by rw [← hf]
      simp only [Sum.elim_inl, hp]
      refine W.call (xZaf p) ?_
      rintro _ rfl
      simp only [hc, show ((0 : Int) != 0) = false from rfl, cond_false, W.ret]
      exact .inl trivial
  · obtain ⟨a, ha⟩ := x2 (by omega)
    rw [ha]
    simp only [scanE, Sum.elim_inr, W.ret]
    exact .inr ⟨_, rfl⟩
theorem xZca (p : xZ6) (hp : xZ4o p) : W (fun N => xZ3l N p) (· = true) := by
  have hob : ∀ n ∈ p.Body, okN n.Test := fun n hn m hm => xZmJ (((hp.1.1 n hn).2.2.2.2.2.2.1 m hm).2.2.2.2.2.2.1)
  simp only [xZ3l]
  refine W.call (xZnj p hp) fun b hb => ?_
  refine W.cond.2 ⟨fun _ => baw14 _, fun hb0 => ?_⟩
  obtain ⟨l50, _, lt⟩ := hb (by have := xZ1L.1 hb0; omega)
  refine W.call (xZpA p l50 lt) fun own h => ?_
  obtain rfl := h.symm
  by_cases hc : chkG p = 0
  · obtain ⟨q1, q2, q3, q4, q5, t, q6, q7, q8⟩ := xZjk hob hc
    refine W.call (xZjC hc q1 q2 q3 q4 q5 q6 q8) ?_
    rintro _ rfl
    refine W.call (xZaf p) ?_
    rintro _ rfl
    simp only [hc, show ((0 : Int) != 0) = false from rfl, cond_false]
    refine W.cond.2 ⟨fun _ => baw14 _, fun h600 => ?_⟩
    have h600 := xZ1L.1 h600
    refine W.call (xZlv hc q2 q3 q4 q5 q6 q7 q8 (by omega)) ?_
    rintro _ (rfl | ⟨a, rfl⟩)
    · simp only [Sum.elim_inl, xZ8i, Option.bind_some, show ((0 : Int) == 7) = false from rfl, cond_false]
      refine W.call (xZlC p l50 lt) ?_
      rintro _ rfl
      exact baw14 _
    · simp only [Sum.elim_inr, xZ8j, xZ4G, Option.bind_some, show ((7 : Int) == 7) = true from rfl, cond_true, List.length_nil, show (((0 : Nat) : Int) == 0) = true from rfl]
      exact baw14 _
  · refine W.call (f := fun N => xZ4g N p) (P := fun u => True) ?_ fun u _ => ?_
    · simp only [xZ4g]
      refine W.call (xZaf p) ?_
      rintro _ rfl
      simp only [show (chkG p != 0) = true by simpa using hc, cond_true]
      exact W.ret.2 trivial
    refine W.call (xZaf p) ?_
    rintro _ rfl
    simp only [show (chkG p != 0) = true by simpa using hc, cond_true]
    exact baw14 _
end
end Go.Proofs.YtahklhniofiofaaGreatDoor.B
