/- Patterns as trees: the program prints the text. No premise beyond what each theorem says. -/
import Derived.Test.YtahklhniofiofaaGreatDoorKP1
import Derived.Test.YtahklhniofiofaaGreatDoorKA3
set_option linter.all false
set_option linter.unusedSimpArgs false
set_option linter.unusedVariables false
namespace Go.Proofs.YtahklhniofiofaaGreatDoor.K
open Go
section
theorem xZfH {α : Type} {l : List α} {i : Nat} {nd : α} {r : List α} (h : l.drop i = nd :: r) : l[i]? = some nd ∧ l.drop (i + 1) = r := by
  have h1 : (l.drop i)[0]? = some nd := by rw [h]; rfl
  rw [List.getElem?_drop, Nat.add_zero] at h1
  refine ⟨h1, ?_⟩
  have : (l.drop i).drop 1 = r := by rw [h]; rfl
  rwa [List.drop_drop] at this
theorem xZgR {α : Type} {l : List α} {i : Nat} {a b : List α} (h : l.drop i = a ++ b) : l.drop (i + a.length) = b := by
  rw [← List.drop_drop, h, List.drop_left]
theorem xZiX : ∀ (a b : List GT) (alt : Bool), GT.txr (a ++ b) alt = GT.txr a alt ++ GT.txr b alt
  | [], b, alt => by simp [GT.txr]
  | x :: a, b, alt => by simp only [List.cons_append, GT.txr, xZiX a b alt, List.append_assoc]
theorem gN {m : Nat} (h : m ≤ 1000000) : Nat.ble m 9223372036854775807 = true := Nat.ble_eq_true_of_le (by omega)
section
variable {y : List xZ2} {y2 : Int} {y3 : List UInt8} {y4 : Int}
def PRG (y : List xZ2) (y2 : Int) (y3 : List UInt8) (y4 : Int) (t : GT) (w : Int) : Prop :=
  ∀ (i : Nat) (r : List xZ2), y.drop i = t.fl ++ r → W (fun N => (xZu N) w y y2 y3 y4 (i : Int)) (· = (t.tx w, y, y2, y3, y4, ((i + t.fl.length : Nat) : Int)))
theorem xZls (hy : y.length ≤ 40) {neg : Bool} {v t : List UInt8} {o : Option TT} {w : Int} (h : (GT.leaf neg v t o).ok w) : PRG y y2 y3 y4 (.leaf neg v t o) w := fun i r hd => by
  simp only [GT.fl, List.singleton_append] at hd
  obtain ⟨h1, h2⟩ := xZfH hd
  have hlt := (List.getElem?_eq_some_iff.1 h1).1
  have hx : ix y (i : Int) = some ⟨kL neg, 0, 0, 0, v, t, oT o⟩ := by rw [ix_nat', h1]
  refine W.shift ?_
  show W (fun N => xZ15 N (xZu N) w y y2 y3 y4 (i : Int)) _
  have hl : lfG ⟨kL neg, 0, 0, 0, v, t, oT o⟩ = true := by cases neg <;> rfl
  simp only [xZ15, hx, Option.bind_some, W.gd, xZG, e_lf, hl, cond_true]
  refine ⟨by omega, W.call (xZp4 h.2.1 h.2.2.1 h.2.2.2) ?_⟩
  rintro _ rfl
  exact W.ret.2 rfl
theorem xZnt (hy : y.length ≤ 40) {lo hi : Int} {a : GT} {w : Int} (h : (GT.rep lo hi a).ok w) (ha : PRG y y2 y3 y4 a 3) : PRG y y2 y3 y4 (.rep lo hi a) w := fun i r hd => by
  simp only [GT.fl, List.cons_append] at hd
  obtain ⟨h1, h2⟩ := xZfH hd
  have hlt := (List.getElem?_eq_some_iff.1 h1).1
  have hx : ix y (i : Int) = some ⟨3, 1, lo, hi, [], [], []⟩ := by rw [ix_nat', h1]
  have hfl : a.fl.length ≤ 40 := by
    have := congrArg List.length h2
    simp only [List.length_drop, List.length_append] at this; omega
  have hta := xZjh a 3 h.2
  have htm := xZil h.1.1 h.1.2.1 h.1.2.2.1 h.1.2.2.2.1
  refine W.shift ?_
  show W (fun N => xZ15 N (xZu N) w y y2 y3 y4 (i : Int)) _
  simp only [xZ15, hx, Option.bind_some, W.gd, xZG, e_lf, show lfG ⟨3, 1, lo, hi, [], [], []⟩ = false from rfl, cond_false, show ((3 : Int) == 2) = false from rfl, e_kdG, show kdG ⟨3, 1, lo, hi, [], [], []⟩ = 1 from rfl]
  refine ⟨by omega, ?_⟩
  have hw := ha (i + 1) r h2
  refine W.bind (show W (fun N => (xZu N) 3 y y2 y3 y4 ((i : Int) + 1)) _ from hw) ?_
  rintro _ rfl
  simp only [W.gd, xZG]
  refine ⟨by omega, ?_⟩
  have hout : brT (decide (w = 3)) (GT.tx a 3 ++ timS lo hi) = (GT.rep lo hi a).tx w := by rw [GT.tx]
  rw [← hout, show i + (GT.rep lo hi a).fl.length = i + 1 + a.fl.length by simp only [GT.fl, List.length_cons]; omega]
  refine W.lp8 (P := fun v0 v1 v2 v3 v4 v5 v6 v7 => v1 = a.tx 3 ∧ v2 = 0 ∧ v3 = y ∧ v4 = y2 ∧ v5 = y3 ∧ v6 = y4 ∧ v7 = ((i + 1 + a.fl.length : Nat) : Int)) (m := fun _ _ _ _ _ _ _ _ => 0) ⟨rfl, rfl, rfl, rfl, rfl, rfl, rfl⟩ ?_
  rintro F v0 v1 v2 v3 v4 v5 v6 v7 ⟨rfl, rfl, rfl, rfl, rfl, rfl, rfl⟩ hn
  simp only [xZ16, show ltB 0 ((1 : Int) - 1) = false from rfl, cond_false, show ((3 : Int) == 3) = true from rfl, cond_true]
  refine W.call (w_tim (n := ⟨3, 1, lo, hi, [], [], []⟩) h.1.1 h.1.2.1 h.1.2.2.1 h.1.2.2.2.1) ?_
  rintro _ rfl
  have e1 : (a.tx 3 ++ timS lo hi).length ≤ 200000 := by rw [List.length_append]; omega
  have e1' : (a.tx 3).length + (timS lo hi).length ≤ 1000000 := by omega
  simp only [gN e1', xZ1e]
  generalize a.tx 3 ++ timS lo hi = z at *
  by_cases hw3 : w = 3
  · subst hw3
    simp only [show ((3 : Int) == 3) = true from rfl, cond_true, gN (show 1 + z.length ≤ 1000000 by omega), gN (show z.length + 1 + 1 ≤ 1000000 by omega), xZ1e, W.ret]
    rfl
  · simp only [show (w == 3) = false by simpa using hw3, cond_false, show ((3 : Int) == 2) = false from rfl, decide_eq_false hw3]
    cases w == 1 <;> exact W.ret.2 rfl
theorem xZnZ (hy : y.length ≤ 40) {alt : Bool} {bs : List GT} {w : Int} (h : (GT.lst alt bs).ok w) (hb : ∀ b ∈ bs, PRG y y2 y3 y4 b (kA alt)) : PRG y y2 y3 y4 (.lst alt bs) w := fun i r hd => by
  obtain ⟨g1, g2, g3, g4⟩ := h
  simp only [GT.fl, List.cons_append] at hd
  obtain ⟨h1, h2⟩ := xZfH hd
  have hlt := (List.getElem?_eq_some_iff.1 h1).1
  generalize hnd : (⟨kA alt, (bs.length : Int), 0, 0, [], [], []⟩ : xZ2) = nd at *
  have hx : ix y (i : Int) = some nd := by rw [ix_nat', h1]
  have hlf : lfG nd = false := by subst hnd; cases alt <;> rfl
  have hk : nd.Kind = kA alt := by subst hnd; rfl
  have hkd : kdG nd = bs.length := by
    subst hnd
    have : isLs ⟨kA alt, (bs.length : Int), 0, 0, [], [], []⟩ = true := by cases alt <;> rfl
    unfold kdG
    rw [if_pos this]
    show max 0 (min (bs.length : Int) 40) = _
    omega
  obtain ⟨a, q, rfl⟩ : ∃ a q, bs = a :: q := by
    cases bs with
    | nil => simp at g2
    | cons a q => exact ⟨a, q, rfl⟩
  have hq40 : q.length ≤ 40 := by simp only [List.length_cons] at g3; omega
  have hfl : (GT.fls (a :: q)).length ≤ 40 := by
    have := congrArg List.length h2
    simp only [List.length_drop, List.length_append] at this; omega
  have htx := xZii (a :: q) alt g4
  have hB : (GT.txr (a :: q) alt).length ≤ 200000 := by omega
  have hd0 : y.drop (i + 1) = a.fl ++ (GT.fls q ++ r) := by rw [h2, GT.fls, List.append_assoc]
  have hw := hb a (List.mem_cons_self ..) (i + 1) _ hd0
  have hd1 := xZgR hd0
  refine W.shift ?_
  show W (fun N => xZ15 N (xZu N) w y y2 y3 y4 (i : Int)) _
  -- what is behind the first
  have hloop : ∀ (x : Int), x = (q.length : Int) → W (fun N => lp8 (xZ16 N (xZu N) w x (kA alt) nd.Kids nd.Lo nd.Hi nd.Var nd.Type_ nd.Test) N (sepT alt) (a.tx (kA alt)) 0 y y2 y3 y4 ((i + 1 + a.fl.length : Nat) : Int)) (· = ((GT.lst alt (a :: q)).tx w, y, y2, y3, y4, ((i + (GT.lst alt (a :: q)).fl.length : Nat) : Int))) := by
    rintro x rfl
    refine W.lp8 (P := fun v0 v1 v2 v3 v4 v5 v6 v7 => v0 = sepT alt ∧ v3 = y ∧ v4 = y2 ∧ v5 = y3 ∧ v6 = y4 ∧ ∃ pre suf : List GT, q = pre ++ suf ∧ v1 = a.tx (kA alt) ++ GT.txr pre alt ∧ v2 = (pre.length : Int) ∧ v7 = ((i + 1 + a.fl.length + (GT.fls pre).length : Nat) : Int)) (m := fun _ _ v2 _ _ _ _ _ => q.length - v2.toNat)
      ⟨rfl, rfl, rfl, rfl, rfl, [], q, rfl, by simp [GT.txr], rfl, by simp [GT.fls]⟩ ?_
    rintro F v0 v1 v2 v3 v4 v5 v6 v7 ⟨rfl, rfl, rfl, rfl, rfl, pre, suf, hq, rfl, rfl, rfl⟩ hn
    simp only [xZ16]
    cases suf with
    | cons b suf =>
      have hql : q.length = pre.length + (suf.length + 1) := by rw [hq]; simp
      simp only [show ltB (pre.length : Int) (q.length : Int) = true from xZX.2 (by omega), cond_true]
      have hd2 : v3.drop (i + 1 + a.fl.length + (GT.fls pre).length) = b.fl ++ (GT.fls suf ++ r) := by
        refine xZgR (b := _) ?_
        rw [hd1, hq, xZiQ, GT.fls, List.append_assoc, List.append_assoc]
      have hwb := hb b (by rw [hq]; simp) _ _ hd2
      refine W.bind (W.lift hwb) ?_
      rintro _ rfl
      have hB2 : (sepT alt).length + (a.tx (kA alt)).length + (GT.txr pre alt).length + ((sepT alt).length + (b.tx (kA alt)).length) ≤ 200000 := by
        have := hB
        rw [hq] at this
        simp only [GT.txr, xZiX, List.length_append] at this
        omega
      simp only [gN (show (sepT alt).length + (b.tx (kA alt)).length ≤ 1000000 by omega), gN (show (a.tx (kA alt) ++ GT.txr pre alt).length + (sepT alt ++ b.tx (kA alt)).length ≤ 1000000 by simp only [List.length_append]; omega), xZ1e, W.gd, xZG]
      refine ⟨by omega, hn _ _ _ _ _ _ _ _ ⟨rfl, rfl, rfl, rfl, rfl, pre ++ [b], suf, by rw [hq]; simp, ?_, by simp, ?_⟩ (by simp only [Int.toNat_natCast]; omega)⟩
      · rw [xZiX, GT.txr, GT.txr, List.append_nil, List.append_assoc]
      · rw [xZiQ, GT.fls, GT.fls, List.append_nil, List.length_append]
        congr 1
        omega
    | nil =>
      rw [List.append_nil] at hq
      subst hq
      have e0 : ltB (q.length : Int) (q.length : Int) = false := by rw [xZ8b]; simp
      have hz : (GT.txr (a :: q) alt).drop (sepT alt).length = a.tx (kA alt) ++ GT.txr q alt := by rw [GT.txr, List.append_assoc, List.drop_left]
      have hpos : i + (GT.lst alt (a :: q)).fl.length = i + 1 + a.fl.length + (GT.fls q).length := by simp only [GT.fl, GT.fls, List.length_cons, List.length_append]; omega
      have hzl : (a.tx (kA alt) ++ GT.txr q alt).length ≤ 200000 := by rw [← hz, List.length_drop]; omega
      rw [hpos, GT.tx, hz]
      simp only [e0, cond_false]
      generalize a.tx (kA alt) ++ GT.txr q alt = z at *
      have k3 : (kA alt == 3) = false := by cases alt <;> rfl
      simp only [k3, cond_false]
      by_cases hw3 : w = 3
      · subst hw3
        simp only [show ((3 : Int) == 3) = true from rfl, cond_true, gN (show 1 + z.length ≤ 1000000 by omega), gN (show z.length + 1 + 1 ≤ 1000000 by omega), xZ1e, W.ret]
        rfl
      · simp only [show (w == 3) = false by simpa using hw3, cond_false]
        by_cases hw1 : w = 1
        · subst hw1
          simp only [show ((1 : Int) == 1) = true from rfl, cond_true]
          cases alt
          · exact W.ret.2 rfl
          · simp only [show (kA true == 2) = true from rfl, cond_true, gN (show 1 + z.length ≤ 1000000 by omega), gN (show z.length + 1 + 1 ≤ 1000000 by omega), xZ1e, W.ret]
            rfl
        · have : decide (w = 3 ∨ (w = 1 ∧ alt = true)) = false := decide_eq_false fun hh => hh.elim hw3 fun h => hw1 h.1
          simp only [show (w == 1) = false by simpa using hw1, cond_false, W.ret, this]
          rfl
  simp only [xZ15, hx, Option.bind_some, W.gd, xZG, e_lf, hlf, cond_false, e_kdG, hkd, hk]
  refine ⟨by omega, ?_⟩
  have hl1 : ((List.length (a :: q) : Int) - 1) = (q.length : Int) := by simp only [List.length_cons]; omega
  cases alt
  · simp only [show (kA false == 2) = false from rfl, cond_false]
    refine W.bind (show W (fun N => (xZu N) (kA false) y y2 y3 y4 ((i : Int) + 1)) _ from hw) ?_
    rintro _ rfl
    simp only [W.gd, xZG]
    exact ⟨by omega, hloop _ hl1⟩
  · simp only [show (kA true == 2) = true from rfl, cond_true]
    refine W.bind (show W (fun N => (xZu N) (kA true) y y2 y3 y4 ((i : Int) + 1)) _ from hw) ?_
    rintro _ rfl
    simp only [W.gd, xZG]
    exact ⟨by omega, hloop _ hl1⟩
mutual
theorem pr_g (hy : y.length ≤ 40) : ∀ (t : GT) (w : Int), t.ok w → PRG y y2 y3 y4 t w
  | .leaf neg v t o, w, h => xZls hy h
  | .rep lo hi a, w, h => xZnt hy h (pr_g hy a 3 h.2)
  | .lst alt bs, w, h => xZnZ hy h (pr_gs hy bs (kA alt) h.2.2.2)
theorem pr_gs (hy : y.length ≤ 40) : ∀ (bs : List GT) (w : Int), GT.oks bs w → ∀ b ∈ bs, PRG y y2 y3 y4 b w
  | [], w, _, b, hb => by cases hb
  | a :: r, w, h, b, hb => by
    rcases List.mem_cons.1 hb with e | hb
    · rw [e]; exact pr_g hy a w h.1
    · exact pr_gs hy r w h.2 b hb
end
end
end
theorem s58 : Cut' [58] [sg [58]] := xZ60 fun _ => rfl
theorem s59 : Cut' [59] [sg [59]] := xZ60 fun _ => rfl
theorem s91 : Cut' [91] [sg [91]] := xZ60 fun _ => rfl
theorem s93 : Cut' [93] [sg [93]] := xZ60 fun _ => rfl
theorem s123 : Cut' [123] [sg [123]] := xZ60 fun _ => rfl
theorem s125 : Cut' [125] [sg [125]] := xZ60 fun _ => rfl
theorem s124 : Cut' [124] [sg [124]] := xZ60 fun _ => rfl
theorem s44 : Cut' [44] [sg [44]] := xZ60 fun _ => rfl
theorem s63 : Cut' [63] [sg [63]] := xZ60 fun _ => rfl
theorem s42 : Cut' [42] [sg [42]] := xZ60 fun _ => rfl
theorem hdD {d : UInt8} {b : List UInt8} (h : Dl d) : Hd (d :: b) := ⟨_, _, rfl, h⟩
theorem dl58 : Dl 58 := ⟨by decide, by decide, by decide, by decide, by decide⟩
theorem dl59 : Dl 59 := ⟨by decide, by decide, by decide, by decide, by decide⟩
theorem dl91 : Dl 91 := ⟨by decide, by decide, by decide, by decide, by decide⟩
theorem dl93 : Dl 93 := ⟨by decide, by decide, by decide, by decide, by decide⟩
theorem dl123 : Dl 123 := ⟨by decide, by decide, by decide, by decide, by decide⟩
theorem dl125 : Dl 125 := ⟨by decide, by decide, by decide, by decide, by decide⟩
theorem dl44 : Dl 44 := ⟨by decide, by decide, by decide, by decide, by decide⟩
theorem dl63 : Dl 63 := ⟨by decide, by decide, by decide, by decide, by decide⟩
theorem dl42 : Dl 42 := ⟨by decide, by decide, by decide, by decide, by decide⟩
theorem dl43 : Dl 43 := ⟨by decide, by decide, by decide, by decide, by decide⟩
def nK (n : Int) : Tk := (3, [], ⟨1, n, 0, []⟩)
theorem xZlQ {n : Int} (h0 : 0 ≤ n) (h1 : n ≤ 1073741824) : Cut (dg n) [nK n] := by
  have := xZiE (a := dgU n) (xZnN h0 h1)
  have e : (dgU n).tk = [nK n] := by
    show (if (1 : Int) = 1 ∧ n < 0 then _ else _) = _
    rw [if_neg (by omega)]; rfl
  rwa [e] at this
def oKt : Option TT → List Tk
  | none => []
  | some p => sg [91] :: (p.tk ++ [sg [93]])
def lfK (neg : Bool) (v t : List UInt8) (o : Option TT) : List Tk := (if neg then [sg [33]] else []) ++ ((1, v, zv) :: sg [58] :: (1, t, zv) :: oKt o)
def timK (lo hi : Int) : List Tk :=
  if hi = 1 then [sg [63]] else if hi = 0 ∧ lo = 0 then [sg [42]] else if hi = 0 ∧ lo = 1 then [sg [43]] else if hi = 0 then [sg [123], nK lo, sg [44], sg [125]]
  else if hi = lo then [sg [123], nK lo, sg [125]] else [sg [123], nK lo, sg [44], nK hi, sg [125]]
theorem xZoU {lo hi : Int} (h1 : 0 ≤ lo) (h2 : lo ≤ 8) (h3 : 0 ≤ hi) (h4 : hi ≤ 8) : Cut (timS lo hi) (timK lo hi) ∧ Hd (timS lo hi) := by
  have a := xZlQ h1 (show lo ≤ 1073741824 by omega)
  have b := xZlQ h3 (show hi ≤ 1073741824 by omega)
  unfold timS timK
  split
  · exact ⟨s63.sc, hdD dl63⟩
  split
  · exact ⟨s42.sc, hdD dl42⟩
  split
  · exact ⟨s43.sc, hdD dl43⟩
  split
  · refine ⟨?_, hdD dl123⟩
    show Cut ([123] ++ (dg lo ++ ([44] ++ [125]))) ([sg [123]] ++ ([nK lo] ++ ([sg [44]] ++ [sg [125]])))
    exact sc2 s123 (sc1 a (hdD dl44) (sc2 s44 s125.sc))
  split
  · refine ⟨?_, hdD dl123⟩
    show Cut ([123] ++ (dg lo ++ [125])) ([sg [123]] ++ ([nK lo] ++ [sg [125]]))
    exact sc2 s123 (sc1 a (hdD dl125) s125.sc)
  · refine ⟨?_, hdD dl123⟩
    have e : (123 :: (((dg lo ++ [44]) ++ dg hi) ++ [125]) : List UInt8) = [123] ++ (dg lo ++ ([44] ++ (dg hi ++ [125]))) := by simp
    rw [e]
    show Cut _ ([sg [123]] ++ ([nK lo] ++ ([sg [44]] ++ ([nK hi] ++ [sg [125]]))))
    exact sc2 s123 (sc1 a (hdD dl44) (sc2 s44 (sc1 b (hdD dl125) s125.sc)))
theorem xZp2 : CutX (fun b => ∃ c r, b = c :: r ∧ c ≠ 61) [33] [sg [33]] := fun rest p out hf ho => by
  obtain ⟨c, r, rfl, hc⟩ := hf
  have h2 : oneR (33 :: c :: r) = .inl (4, [33], zv, 1) := by
    show signR 33 (c :: r) = _
    unfold signR
    rw [if_neg (by rintro ⟨_, h⟩; simp at h; exact hc h)]
  exact ⟨fun ho => ⟨[⟨4, (p : Int), [33], zv⟩], rfl, xZie (by simp) rfl h2 (by simp at ho; omega)⟩, fun h2 => xZhD (by simp) rfl (by simp at h2; omega)⟩
theorem cut_o {o : Option TT} (h : oK o) : Cut (oX o) (oKt o) ∧ (oX o = [] ∨ Hd (oX o)) := by
  cases o with
  | none => exact ⟨fun rest p out _ ho => ⟨fun _ => ⟨[], rfl, by simp [oX]⟩, fun h2 => by simp [oKt] at h2; omega⟩, .inl rfl⟩
  | some t =>
    refine ⟨?_, .inr (hdD dl91)⟩
    show Cut ([91] ++ (t.tx ++ [93])) ([sg [91]] ++ (t.tk ++ [sg [93]]))
    exact sc2 s91 (sc1 (xZcR h.1) (hdD dl93) s93.sc)
theorem xZij {a b : List UInt8} {s t : List Tk} (h1 : Cut a s) (hb : b = [] ∨ Hd b) (h2 : Cut b t) : Cut (a ++ b) (s ++ t) :=
  xZg2 h1 h2 fun rest hr => by
    rcases hb with rfl | ⟨d, r, rfl, h⟩
    · exact hr
    · exact .inr ⟨d, r ++ rest, rfl, h⟩
theorem xZmn {neg : Bool} {v t : List UInt8} {o : Option TT} (hv : nm v = true) (ht : nm t = true) (ho : oK o) : Cut (lfT neg v t o) (lfK neg v t o) := by
  obtain ⟨c1, c2⟩ := cut_o ho
  have hm : Cut (v ++ ([58] ++ (t ++ oX o))) ([(1, v, zv)] ++ ([sg [58]] ++ ([(1, t, zv)] ++ oKt o))) :=
    sc1 (xZcV hv) (hdD dl58) (sc2 s58 (xZij (xZcV ht) c2 c1))
  have e : ((v ++ [58]) ++ t) ++ oX o = v ++ ([58] ++ (t ++ oX o)) := by simp
  cases neg
  · show Cut (((v ++ [58]) ++ t) ++ oX o) _
    rw [e]; exact hm
  · show Cut ([33] ++ (((v ++ [58]) ++ t) ++ oX o)) ([sg [33]] ++ _)
    rw [e]
    refine xZg2 xZp2 hm fun rest _ => ?_
    cases v with
    | nil => cases hv
    | cons c q =>
      refine ⟨c, _, rfl, fun hc => ?_⟩
      subst hc
      simp only [nm, Bool.and_eq_true] at hv
      exact absurd hv.2.1 (by decide)
mutual
def GT.tk : GT → Int → List Tk
  | .leaf neg v t o, _ => lfK neg v t o
  | .rep lo hi a, w => brk (decide (w = 3)) (GT.tk a 3 ++ timK lo hi)
  | .lst alt bs, w => brk (decide (w = 3 ∨ (w = 1 ∧ alt = true))) ((GT.tkr bs alt).drop 1)
def GT.tkr : List GT → Bool → List Tk
  | [], _ => []
  | a :: r, alt => (sg (if alt then [124] else [59]) :: GT.tk a (kA alt)) ++ GT.tkr r alt
end
theorem xZn6 (alt : Bool) : Cut' (sepT alt) [sg (if alt then [124] else [59])] := by
  cases alt
  · exact xZg2 s59 xZ5c fun _ _ => trivial
  · exact xZg2 xZ5c (xZg2 s124 xZ5c fun _ _ => trivial) fun _ _ => trivial
theorem xZne (bs : List GT) (alt : Bool) : GT.txr bs alt = [] ∨ Hd (GT.txr bs alt) := by
  cases bs with
  | nil => exact .inl rfl
  | cons a r =>
    refine .inr ?_
    rw [GT.txr]
    cases alt
    · exact hdD dl59
    · exact hdD dl32
mutual
theorem cut_g : ∀ (t : GT) (w : Int), t.ok w → Cut (t.tx w) (t.tk w)
  | .leaf neg v t o, w, h => by
    rw [GT.tx, GT.tk]; exact xZmn h.2.1 h.2.2.1 h.2.2.2
  | .rep lo hi a, w, h => by
    obtain ⟨c1, c2⟩ := xZoU h.1.1 h.1.2.1 h.1.2.2.1 h.1.2.2.2.1
    rw [GT.tx, GT.tk]
    exact sc_br (sc1 (cut_g a 3 h.2) c2 c1)
  | .lst alt [], w, h => absurd h.2.1 (by simp)
  | .lst alt (a :: r), w, h => by
    rw [GT.tx, GT.tk]
    refine sc_br ?_
    rw [GT.txr, GT.tkr, List.append_assoc, List.drop_left]
    show Cut _ (GT.tk a (kA alt) ++ GT.tkr r alt)
    exact xZij (cut_g a (kA alt) h.2.2.2.1) (xZne r alt) (xZmQ r alt h.2.2.2.2)
theorem xZmQ : ∀ (bs : List GT) (alt : Bool), GT.oks bs (kA alt) → Cut (GT.txr bs alt) (GT.tkr bs alt)
  | [], alt, _ => fun rest p out _ ho => ⟨fun _ => ⟨[], rfl, by simp [GT.txr]⟩, fun h2 => by simp [GT.tkr] at h2; omega⟩
  | a :: r, alt, h => by
    rw [GT.txr, GT.tkr, List.append_assoc]
    show Cut _ (([sg (if alt then [124] else [59])] ++ GT.tk a (kA alt)) ++ GT.tkr r alt)
    rw [List.append_assoc]
    exact sc2 (xZn6 alt) (xZij (cut_g a (kA alt) h.1) (xZne r alt) (xZmQ r alt h.2))
end
def btT (wi : Int) (b : List UInt8) (m : Int) : List UInt8 := [32, 119, 105, 116, 104, 105, 110, 32] ++ (dg wi ++ ((if b = [] then [] else 32 :: 98 :: 121 :: 32 :: b) ++ (32 :: wdS m)))
def btK (wi : Int) (b : List UInt8) (m : Int) : List Tk := kw [119, 105, 116, 104, 105, 110] :: nK wi :: ((if b = [] then [] else [kw [98, 121], (1, b, zv)]) ++ [kw (wdS m)])
theorem xZqp {wi : Int} {b : List UInt8} {m : Int} (h1 : 1 ≤ wi) (h2 : wi ≤ 1073741824) (h3 : b = [] ∨ nm b = true) (h4 : m = 1 ∨ m = 2 ∨ m = 3) : Cut (btT wi b m) (btK wi b m) := by
  have hw : Cut (wdS m) [kw (wdS m)] := by rcases h4 with rfl | rfl | rfl <;> exact xZcD (by decide) rfl
  have ht : Cut ([32] ++ wdS m) ([] ++ [kw (wdS m)]) := sc2 xZ5c hw
  have hm : Cut ((if b = [] then [] else 32 :: 98 :: 121 :: 32 :: b) ++ (32 :: wdS m)) ((if b = [] then [] else [kw [98, 121], (1, b, zv)]) ++ [kw (wdS m)]) ∧ Hd ((if b = [] then [] else 32 :: 98 :: 121 :: 32 :: b) ++ (32 :: wdS m)) := by
    by_cases hb : b = []
    · rw [if_pos hb, if_pos hb]
      exact ⟨ht, hdD dl32⟩
    · rw [if_neg hb, if_neg hb]
      refine ⟨?_, hdD dl32⟩
      show Cut (([32] ++ ([98, 121] ++ ([32] ++ b))) ++ ([32] ++ wdS m)) (([] ++ ([kw [98, 121]] ++ ([] ++ [(1, b, zv)]))) ++ ([] ++ [kw (wdS m)]))
      exact sc1 (sc2 xZ5c (sc1 (xZcD (by decide) rfl) hd32 (sc2 xZ5c (xZcV (h3.resolve_left hb))))) hd32 ht
  show Cut ([32] ++ ([119, 105, 116, 104, 105, 110] ++ ([32] ++ (dg wi ++ _)))) ([] ++ ([kw [119, 105, 116, 104, 105, 110]] ++ ([] ++ ([nK wi] ++ _))))
  exact sc2 xZ5c (sc1 (xZcD (by decide) rfl) hd32 (sc2 xZ5c (sc1 (xZlQ (by omega) h2) hm.2 hm.1)))
section
section
variable {y : List xZ0} {e : Int}
theorem xZpb {b : Nat} {p : TT} (ho : oK (some p)) (hm : M y b p.tk) (hs : ke (tk y (b + p.tk.length)) = sg [93]) : PAR y b e = .inr (p.fl, b + p.tk.length) := by
  obtain ⟨o1, o2, o3, o4⟩ := ho
  obtain ⟨m, _, h3⟩ := (pp3 (y := y) p o1).1 51 0 b (by omega) (fun _ => by omega) (by omega) hm (Fo_sg hs (by decide) (by decide) (by decide)) (by rw [xZO hs]; rfl)
  rw [xZ9A (xZ9t (by rw [xZO hs]; rfl))] at h3
  unfold PAR
  rw [show (SPP y 51).1 0 b = _ from h3]
  simp only [o4, if_true]
theorem xZkF {v t : List UInt8} {o : Option TT} {k : Int} {i : Nat} (ho : oK o) (hm : M y i ((1, v, zv) :: sg [58] :: (1, t, zv) :: oKt o)) (hx : isT' y (i + (3 + (oKt o).length)) 4 [91] = false) :
    atomS y e k i = .inr ([⟨k, 0, 0, 0, v, t, oT o⟩], i + (3 + (oKt o).length)) := by
  obtain ⟨m1, m2, m3, m4⟩ := hm
  have k1 : (tk y i).Kind = 1 := congrArg (·.1) m1
  have t1 : (tk y i).Text = v := congrArg (·.2.1) m1
  have k3 : (tk y (i + 2)).Kind = 1 := congrArg (·.1) m3
  have t3 : (tk y (i + 2)).Text = t := congrArg (·.2.1) m3
  have s2 : isT' y (i + 1) 4 [58] = true := by rw [xZO m2]; rfl
  unfold atomS
  rw [if_pos k1, if_pos s2, if_pos k3]
  cases o with
  | none =>
    have hx : isT' y (i + 3) 4 [91] = false := hx
    rw [if_neg (by rw [hx]; decide), t1, t3]
    rfl
  | some p =>
    obtain ⟨n1, n2⟩ := m4
    obtain ⟨n2, n3⟩ := M_app.1 n2
    have s4 : isT' y (i + 3) 4 [91] = true := by rw [xZO n1]; rfl
    have s5 : isT' y (i + 4 + p.tk.length) 4 [93] = true := by rw [show i + 4 + p.tk.length = i + 1 + 1 + 1 + 1 + p.tk.length by omega, xZO n3.1]; rfl
    have hP : PAR y (i + 4) e = .inr (p.fl, i + 4 + p.tk.length) := xZpb ho n2 n3.1
    rw [if_pos s4, hP]
    simp only [s5, if_true, t1, t3]
    simp only [oT, oKt, List.length_cons, List.length_append, List.length_nil]
    rw [show i + 4 + p.tk.length + 1 = i + (3 + (p.tk.length + (0 + 1) + 1)) by omega]
def Nx (y : List xZ0) (j : Nat) : Prop := isT' y j 4 [43] = false ∧ isT' y j 4 [42] = false ∧ isT' y j 4 [63] = false ∧ isT' y j 4 [123] = false ∧ isT' y j 4 [91] = false
theorem xZgh {j : Nat} (h : Nx y j) : oftS y e j = .inr (none, j) := by
  obtain ⟨h1, h2, h3, h4, _⟩ := h
  unfold oftS
  rw [if_neg (by rw [h1]; decide), if_neg (by rw [h2]; decide), if_neg (by rw [h3]; decide), if_neg (by rw [h4]; decide)]
theorem xZhT {i : Nat} {n : Int} (h : ke (tk y i) = nK n) : numS y i = some n := by
  have k1 : (tk y i).Kind = 3 := congrArg (·.1) h
  have k2 : (tk y i).Val = ⟨1, n, 0, []⟩ := congrArg (·.2.2) h
  unfold numS
  rw [k1, k2]; rfl
theorem xZnC {j : Nat} {lo hi : Int} (h : 0 ≤ lo ∧ lo ≤ 8 ∧ 0 ≤ hi ∧ hi ≤ 8 ∧ ¬ (lo = 1 ∧ hi = 1) ∧ (hi = 0 ∨ lo ≤ hi)) (hm : M y j (timK lo hi)) : oftS y e j = .inr (some (lo, hi), j + (timK lo hi).length) ∧ isT' y j 4 [91] = false := by
  obtain ⟨a1, a2, a3, a4, a5, a6⟩ := h
  unfold timK at hm ⊢
  by_cases c1 : hi = 1
  · have hl : lo = 0 := by omega
    subst c1 hl
    rw [if_pos rfl] at hm ⊢
    have m := hm.1
    refine ⟨?_, by rw [xZO m]; rfl⟩
    unfold oftS
    rw [if_neg (by rw [xZO m]; decide), if_neg (by rw [xZO m]; decide), if_pos (by rw [xZO m]; rfl)]
    rfl
  rw [if_neg c1] at hm ⊢
  by_cases c2 : hi = 0 ∧ lo = 0
  · obtain ⟨rfl, rfl⟩ := c2
    rw [if_pos ⟨rfl, rfl⟩] at hm ⊢
    have m := hm.1
    refine ⟨?_, by rw [xZO m]; rfl⟩
    unfold oftS
    rw [if_neg (by rw [xZO m]; decide), if_pos (by rw [xZO m]; rfl)]
    rfl
  rw [if_neg c2] at hm ⊢
  by_cases c3 : hi = 0 ∧ lo = 1
  · obtain ⟨rfl, rfl⟩ := c3
    rw [if_pos ⟨rfl, rfl⟩] at hm ⊢
    have m := hm.1
    refine ⟨?_, by rw [xZO m]; rfl⟩
    unfold oftS
    rw [if_pos (by rw [xZO m]; rfl)]
    rfl
  rw [if_neg c3] at hm ⊢
  have hb : ∀ x : (Int × Int) ⊕ (Int × Int × Nat), ke (tk y j) = sg [123] → cntS y e (j + 1) = x → oftS y e j = (match x with | .inl x => .inl x | .inr (a, b, k) => .inr (some (a, b), k)) := fun x m hx => by
    unfold oftS
    rw [if_neg (by rw [xZO m]; decide), if_neg (by rw [xZO m]; decide), if_neg (by rw [xZO m]; decide), if_pos (by rw [xZO m]; rfl), hx]
    rcases x with x | ⟨a, b, k⟩ <;> rfl
  by_cases c4 : hi = 0
  · subst c4
    rw [if_pos rfl] at hm ⊢
    obtain ⟨m1, m2, m3, m4, _⟩ := hm
    refine ⟨?_, by rw [xZO m1]; rfl⟩
    have : cntS y e (j + 1) = .inr (lo, 0, j + 4) := by
      unfold cntS
      rw [xZhT m2]
      simp only [xZO m3, xZO m4]
      rfl
    rw [hb _ m1 this]; rfl
  rw [if_neg c4] at hm ⊢
  by_cases c5 : hi = lo
  · subst c5
    rw [if_pos rfl] at hm ⊢
    obtain ⟨m1, m2, m3, _⟩ := hm
    refine ⟨?_, by rw [xZO m1]; rfl⟩
    have : cntS y e (j + 1) = .inr (hi, hi, j + 3) := by
      unfold cntS
      rw [xZhT m2]
      simp only [xZO m3]
      rfl
    rw [hb _ m1 this]; rfl
  rw [if_neg c5] at hm ⊢
  obtain ⟨m1, m2, m3, m4, m5, _⟩ := hm
  refine ⟨?_, by rw [xZO m1]; rfl⟩
  have n4 : numS y (j + 1 + 2) = some hi := xZhT m4
  have f4 : isT' y (j + 1 + 2) 4 [125] = false := by rw [show j + 1 + 2 = j + 1 + 1 + 1 from rfl, xZO m4]; rfl
  have f3 : isT' y (j + 1 + 1) 4 [44] = true := by rw [xZO m3]; rfl
  have f5 : isT' y (j + 1 + 3) 4 [125] = true := by rw [show j + 1 + 3 = j + 1 + 1 + 1 + 1 from rfl, xZO m5]; rfl
  have : cntS y e (j + 1) = .inr (lo, hi, j + 5) := by
    unfold cntS
    rw [xZhT m2]
    simp only [f3, f4, n4, f5, if_true, Bool.false_eq_true, if_false]
  rw [hb _ m1 this]; rfl
end
end
section
def GT.isB : GT → Int → Bool
  | .leaf .., _ => false
  | .rep .., w => decide (w = 3)
  | .lst alt _, w => decide (w = 3 ∨ (w = 1 ∧ alt = true))
def GT.isA : GT → Bool
  | .lst true _ => true
  | _ => false
theorem xZjt : ∀ (t : GT) (w : Int), t.tk w = brk (t.isB w) (t.tk 0)
  | .leaf neg v t o, w => by rw [GT.tk, GT.tk]; rfl
  | .rep lo hi a, w => by rw [GT.tk, GT.tk]; rfl
  | .lst alt bs, w => by
    rw [GT.tk, GT.tk]
    have : decide ((0 : Int) = 3 ∨ ((0 : Int) = 1 ∧ alt = true)) = false := decide_eq_false (by omega)
    rw [this]; rfl
theorem xZpL (t : GT) : 1 ≤ t.dp := by cases t <;> simp [GT.dp]
theorem xZiH {w : Int} : ∀ {bs : List GT} {b : GT}, GT.oks bs w → b ∈ bs → b.ok w
  | a :: r, b, ho, h => by
    rcases List.mem_cons.1 h with e | h
    · rw [e]; exact ho.1
    · exact xZiH ho.2 h
theorem fl_hd : ∀ (t : GT) {w : Int}, t.ok w → w = 1 ∨ w = 2 → ∃ nd r, t.fl = nd :: r ∧ nd.Kind ≠ w
  | .leaf neg v t o, w, h, hw => ⟨_, _, rfl, by show kL neg ≠ w; cases neg <;> simp only [kL] <;> rcases hw with rfl | rfl <;> decide⟩
  | .rep lo hi a, w, h, hw => ⟨_, _, rfl, by show (3 : Int) ≠ w; omega⟩
  | .lst alt bs, w, h, hw => ⟨_, _, rfl, h.1⟩
section
variable {y : List xZ0} {e : Int}
def BBg (y : List xZ0) (e : Int) (t : GT) : Prop := ∀ (i n : Nat) (d : Int), M y i (t.tk 0) → Nx y (i + (t.tk 0).length) → isT' y (i + (t.tk 0).length) 4 [59] = false → isT' y (i + (t.tk 0).length) 4 [124] = false →
  d + t.dp ≤ 17 → d ≤ 16 → 17 ≤ d + n → SB y e n d i = .inr (t.fl, i + (t.tk 0).length)
theorem xZmR {t : GT} (hB : BBg y e t) {i n : Nat} {d : Int} (hm : M y i (brk true (t.tk 0))) (hd : d + t.dp ≤ 16) (hn : 16 ≤ d + n) :
    itS y e (SB y e n) d i = oftR t.fl (oftS y e (i + (brk true (t.tk 0)).length)) := by
  have hp := xZpL t
  have el : (brk true (t.tk 0)).length = (t.tk 0).length + 2 := by simp [brk]
  obtain ⟨h1, h2⟩ := hm
  obtain ⟨h2, h3⟩ := M_app.1 h2
  have h3 := h3.1
  have hs : ∀ s : List UInt8, s ≠ [41] → isT' y (i + 1 + (t.tk 0).length) 4 s = false := fun s hs => by
    rw [xZO h3]
    have : (([41] : List UInt8) == s) = false := by simpa using fun q : [41] = s => hs q.symm
    rw [this]; rfl
  unfold itS
  rw [if_neg (by rw [xZO h1]; decide), if_pos (by rw [xZO h1]; rfl), if_neg (by omega),
    hB (i + 1) n (d + 1) h2 ⟨hs _ (by decide), hs _ (by decide), hs _ (by decide), hs _ (by decide), hs _ (by decide)⟩ (hs _ (by decide)) (hs _ (by decide)) (by omega) (by omega) (by omega)]
  have e3 : isT' y (i + 1 + (t.tk 0).length) 4 [41] = true := by rw [xZO h3]; rfl
  simp only [e3, if_true, el]
  rw [show i + 1 + (t.tk 0).length + 1 = i + ((t.tk 0).length + 2) by omega]
theorem xZmr {v t : List UInt8} {o : Option TT} {f : Int → Nat → RG} {i : Nat} {d : Int} (ho : oK o) (hm : M y i (lfK false v t o)) (hx : isT' y (i + (lfK false v t o).length) 4 [91] = false) :
    itS y e f d i = oftR (GT.leaf false v t o).fl (oftS y e (i + (lfK false v t o).length)) := by
  have hl : (lfK false v t o).length = 3 + (oKt o).length := by simp [lfK]; omega
  rw [hl] at hx ⊢
  have hm : M y i ((1, v, zv) :: sg [58] :: (1, t, zv) :: oKt o) := hm
  have m1 := hm.1
  unfold itS
  rw [if_neg (by rw [xZO m1]; simp), if_neg (by rw [xZO m1]; simp), xZkF ho hm hx]
  rfl
theorem xZpy {v t : List UInt8} {o : Option TT} {f : Int → Nat → RG} {i : Nat} {d : Int} (ho : oK o) (hm : M y i (lfK true v t o)) (hx : isT' y (i + (lfK true v t o).length) 4 [91] = false) :
    itS y e f d i = .inr ((GT.leaf true v t o).fl, i + (lfK true v t o).length) := by
  have hl : (lfK true v t o).length = 1 + (3 + (oKt o).length) := by simp [lfK]; omega
  rw [hl, ← Nat.add_assoc] at hx
  rw [hl, ← Nat.add_assoc]
  have hm : M y i (sg [33] :: (1, v, zv) :: sg [58] :: (1, t, zv) :: oKt o) := hm
  unfold itS
  rw [if_pos (by rw [xZO hm.1]; rfl), xZkF ho hm.2 hx]
  rfl
theorem core3 {a : GT} (h : a.ok 3) (hB : BBg y e a) {i n : Nat} {d : Int} (hm : M y i (a.tk 3)) (hx : isT' y (i + (a.tk 3).length) 4 [91] = false) (hd : d + a.dp ≤ 16) (hn : 16 ≤ d + n) :
    itS y e (SB y e n) d i = oftR a.fl (oftS y e (i + (a.tk 3).length)) := by
  have hbk := xZjt a 3
  cases a with
  | leaf neg v t o =>
    cases neg with
    | true => exact absurd rfl (h.1 rfl)
    | false =>
      rw [GT.tk] at hm hx ⊢
      exact xZmr h.2.2.2 hm hx
  | rep lo hi b =>
    have : (GT.rep lo hi b).isB 3 = true := rfl
    rw [this] at hbk
    rw [hbk] at hm ⊢
    exact xZmR hB hm hd hn
  | lst alt bs =>
    have : (GT.lst alt bs).isB 3 = true := by simp [GT.isB]
    rw [this] at hbk
    rw [hbk] at hm ⊢
    exact xZmR hB hm hd hn
theorem xZkp {neg : Bool} {v t : List UInt8} {o : Option TT} {f : Int → Nat → RG} {i : Nat} {d : Int} (ho : oK o) (hm : M y i ((GT.leaf neg v t o).tk 0)) (hx : Nx y (i + ((GT.leaf neg v t o).tk 0).length)) :
    itS y e f d i = .inr ((GT.leaf neg v t o).fl, i + ((GT.leaf neg v t o).tk 0).length) := by
  rw [GT.tk] at hm hx ⊢
  cases neg with
  | true => exact xZpy ho hm hx.2.2.2.2
  | false => rw [xZmr ho hm hx.2.2.2.2, xZgh hx]; rfl
def spB (alt : Bool) : List UInt8 := if alt then [124] else [59]
theorem xZl4 {alt : Bool} : ∀ (bs : List GT) (j : Nat), M y j (GT.tkr bs alt) → bs.length ≤ y.length - j
  | [], j, _ => Nat.zero_le _
  | a :: r, j, hm => by
    rw [GT.tkr] at hm
    obtain ⟨h1, h2⟩ := M_app.1 hm
    have hl := ke_lt (by decide) h1.1
    have := xZl4 r _ h2
    simp only [List.length_cons] at this ⊢
    omega
end
end
section
def GT.isL : GT → Bool
  | .lst .. => true
  | _ => false
section
variable {y : List xZ0} {e : Int}
theorem Nx_sg {j : Nat} {s : List UInt8} (h : ke (tk y j) = sg s) (h1 : s = [59] ∨ s = [124]) : Nx y j := by
  rcases h1 with rfl | rfl <;> exact ⟨by rw [xZO h]; rfl, by rw [xZO h]; rfl, by rw [xZO h]; rfl, by rw [xZO h]; rfl, by rw [xZO h]; rfl⟩
theorem xZmS (alt : Bool) (bs : List GT) : (GT.lst alt bs).tk 0 = (GT.tkr bs alt).drop 1 := by
  rw [GT.tk]
  have : decide ((0 : Int) = 3 ∨ ((0 : Int) = 1 ∧ alt = true)) = false := decide_eq_false (by omega)
  rw [this]; rfl
end
end
theorem wd_eq {a m : Int} (h1 : 1 ≤ a) (h2 : a ≤ 3) (h3 : m = 1 ∨ m = 2 ∨ m = 3) : (wdS m == wdS a) = decide (a = m) := by
  rcases (show a = 1 ∨ a = 2 ∨ a = 3 by omega) with rfl | rfl | rfl <;> rcases h3 with rfl | rfl | rfl <;> rfl
theorem xZmP {y : List xZ0} {e m : Int} {q : Nat} (hy : y.length ≤ 700) (hq : q ≤ y.length) (hm : m = 1 ∨ m = 2 ∨ m = 3) (hk : ke (tk y q) = kw (wdS m)) : W (fun N => xZ1b N y q e) (· = .inl (m, y, ((q + 1 : Nat) : Int), e)) := by
  simp only [xZ1b]
  refine W.lp4 (P := fun v0 v1 v2 v3 => 1 ≤ v0 ∧ v0 ≤ m ∧ v1 = y ∧ v2 = (q : Int) ∧ v3 = e) (m := fun v0 _ _ _ => (m - v0).toNat) ⟨by omega, by omega, rfl, rfl, rfl⟩ ?_
  rintro F v0 v1 v2 v3 ⟨h1, h2, rfl, rfl, rfl⟩ hn
  have h3 : v0 ≤ 3 := by omega
  have hs : isT' v1 q 2 (wdS v0) = decide (v0 = m) := by rw [xZO hk, wd_eq h1 h3 hm]; rfl
  simp only [xZ2k, show leB v0 3 = true from xZ14.2 h3, cond_true, e_wd, Option.bind_some, xZ93 (y := v1) (i := q) (e := v3) (show (2 : Int) ≠ 0 by decide) _ (show q ≤ 1000000 by omega), hs]
  by_cases hv : v0 = m
  · subst hv
    simp only [decide_true, if_true, cond_true, W.ret]
  · simp only [decide_eq_false hv, Bool.false_eq_true, if_false, cond_false]
    have hw : IntKind.u8.wrap (v0 + 1) = v0 + 1 := by
      rcases (show v0 = 1 ∨ v0 = 2 ∨ v0 = 3 by omega) with rfl | rfl | rfl <;> rfl
    rw [hw]
    exact hn _ _ _ _ ⟨by omega, by omega, rfl, rfl, rfl⟩ (by omega)
theorem Nx_kw {y : List xZ0} {j : Nat} {s : List UInt8} (h : ke (tk y j) = kw s) (u : List UInt8) : isT' y j 4 u = false := by rw [xZO h]; rfl
theorem W.both {ι : Type} [Lim ι] {α : Type} {q : EqR α} {f g : ι → Option α} {r : α} (h1 : W f (· = r)) (h2 : W g (· = r)) : W (fun i => Go.Proofs.YtahklhniofiofaaGreatDoor.K.both q (f i) (g i)) (· = r) := by
  exact ⟨r, Lim.mono (fun i h => by show Go.Proofs.YtahklhniofiofaaGreatDoor.K.both q (f i) (g i) = Option.some r; rw [h.1, h.2]; exact xZjJ rfl) (Lim.and h1.tl h2.tl), rfl⟩
def ptT (p : xZ5) (t : GT) : List UInt8 := t.tx 0 ++ btT p.Within p.By p.Mode
theorem xZgy {p : xZ5} {t : GT} (hc : chkG p = 0) (hl : p.Body.length ≤ 40) (h1 : 1 ≤ p.Within) (h2 : p.Within ≤ 1073741824) (hb : p.By = [] ∨ nm p.By = true) (hm : p.Mode = 1 ∨ p.Mode = 2 ∨ p.Mode = 3) (ht : t.ok 0) (hf : p.Body = t.fl) : W (fun N => xZ1z N p) (· = ptT p t) := by
  have hpr : W (fun N => xZ2V N 0 p.Body p.Within p.By p.Mode 0) (· = (t.tx 0, p.Body, p.Within, p.By, p.Mode, ((0 + t.fl.length : Nat) : Int))) := pr_g (y := p.Body) hl t 0 ht 0 [] (by rw [hf]; simp)
  have htl := xZjh t 0 ht
  have hfl : t.fl.length ≤ 40 := by rw [← hf]; exact hl
  have hd := xZh3 (show 0 ≤ p.Within by omega) h2
  have hbl : p.By.length ≤ 12 := by
    rcases hb with h | h
    · rw [h]; simp
    · exact (xZbz h).1
  have hwl : (wdS p.Mode).length ≤ 6 := by rcases hm with h | h | h <;> rw [h] <;> decide
  simp only [xZ1z]
  refine W.call (xZ9m p) ?_
  rintro _ rfl
  simp only [hc, show ((0 : Int) != 0) = false from rfl, cond_false, e_wd, Option.bind_some]
  refine W.both ?_ ?_
  all_goals
    refine W.call hpr ?_
    rintro _ rfl
    simp only [gN (show (t.tx 0).length + 8 ≤ 1000000 by omega), xZ1e]
    refine W.call (w_dg (show 0 ≤ p.Within by omega) h2) ?_
    rintro _ rfl
    simp only [gN (show (t.tx 0 ++ [32, 119, 105, 116, 104, 105, 110, 32]).length + (dg p.Within).length ≤ 1000000 by simp; omega), xZ1e]
    by_cases hbe : p.By = []
    · simp only [hbe, show (!(([] : List UInt8) == [])) = false from rfl, cond_false]
      simp only [gN (show (t.tx 0 ++ [32, 119, 105, 116, 104, 105, 110, 32] ++ dg p.Within).length + 1 ≤ 1000000 by simp; omega), gN (show (t.tx 0 ++ [32, 119, 105, 116, 104, 105, 110, 32] ++ dg p.Within ++ [32]).length + (wdS p.Mode).length ≤ 1000000 by simp; omega), xZ1e, W.ret]
      simp [ptT, btT, hbe]
    · simp only [show (!(p.By == [])) = true by simpa using hbe, cond_true]
      simp only [gN (show 4 + p.By.length ≤ 1000000 by omega), gN (show (t.tx 0 ++ [32, 119, 105, 116, 104, 105, 110, 32] ++ dg p.Within).length + (p.By.length + 4) ≤ 1000000 by simp; omega),
        gN (show (t.tx 0 ++ [32, 119, 105, 116, 104, 105, 110, 32] ++ dg p.Within ++ (32 :: 98 :: 121 :: 32 :: p.By)).length + 1 ≤ 1000000 by simp; omega),
        gN (show (t.tx 0 ++ [32, 119, 105, 116, 104, 105, 110, 32] ++ dg p.Within ++ (32 :: 98 :: 121 :: 32 :: p.By) ++ [32]).length + (wdS p.Mode).length ≤ 1000000 by simp; omega), xZ1e, W.ret]
      simp [ptT, btT, hbe]
section
section
variable {y : List xZ0} {e : Int}
def O15 (x : RG) (r : RG) : Prop := x = r ∨ ∃ a, x = .inl (15, a)
def BBo (y : List xZ0) (e : Int) (t : GT) : Prop := ∀ (i n : Nat) (d : Int), M y i (t.tk 0) → Nx y (i + (t.tk 0).length) → isT' y (i + (t.tk 0).length) 4 [59] = false → isT' y (i + (t.tk 0).length) 4 [124] = false →
  d ≤ 16 → 17 ≤ d + n → O15 (SB y e n d i) (.inr (t.fl, i + (t.tk 0).length))
def RBo (y : List xZ0) (e : Int) (t : GT) : Prop := ∀ (i n : Nat) (d : Int), M y i (t.tk 0) → Nx y (i + (t.tk 0).length) → isT' y (i + (t.tk 0).length) 4 [59] = false →
  d ≤ 16 → 16 ≤ d + n → O15 (lsS y 1 [59] (itS y e (SB y e n) d) i) (.inr (t.fl, i + (t.tk 0).length))
def IBo (y : List xZ0) (e : Int) (t : GT) : Prop := ∀ (i n : Nat) (d : Int), M y i (t.tk 0) → Nx y (i + (t.tk 0).length) → 16 ≤ d + n → O15 (itS y e (SB y e n) d i) (.inr (t.fl, i + (t.tk 0).length))
theorem xZjW {l : List xZ2} {ts : List Tk} (hB : ∀ (i n : Nat) (d : Int), M y i ts → Nx y (i + ts.length) → isT' y (i + ts.length) 4 [59] = false → isT' y (i + ts.length) 4 [124] = false → d ≤ 16 → 17 ≤ d + n → O15 (SB y e n d i) (.inr (l, i + ts.length)))
    {i n : Nat} {d : Int} (hm : M y i (brk true ts)) (hn : 16 ≤ d + n) : O15 (itS y e (SB y e n) d i) (oftR l (oftS y e (i + (brk true ts).length))) := by
  have el : (brk true ts).length = ts.length + 2 := by simp [brk]
  obtain ⟨h1, h2⟩ := hm
  obtain ⟨h2, h3⟩ := M_app.1 h2
  have h3 := h3.1
  have hs : ∀ s : List UInt8, s ≠ [41] → isT' y (i + 1 + ts.length) 4 s = false := fun s hs => by
    rw [xZO h3]
    have : (([41] : List UInt8) == s) = false := by simpa using fun q : [41] = s => hs q.symm
    rw [this]; rfl
  unfold itS
  rw [if_neg (by rw [xZO h1]; decide), if_pos (by rw [xZO h1]; rfl)]
  by_cases hd : 16 ≤ d
  · rw [if_pos hd]; exact .inr ⟨_, rfl⟩
  rw [if_neg hd]
  rcases hB (i + 1) n (d + 1) h2 ⟨hs _ (by decide), hs _ (by decide), hs _ (by decide), hs _ (by decide), hs _ (by decide)⟩ (hs _ (by decide)) (hs _ (by decide)) (by omega) (by omega) with hq | ⟨a, hq⟩
  · rw [hq]
    have e3 : isT' y (i + 1 + ts.length) 4 [41] = true := by rw [xZO h3]; rfl
    left
    simp only [e3, if_true, el]
    rw [show i + 1 + ts.length + 1 = i + (ts.length + 2) by omega]
  · rw [hq]; exact .inr ⟨a, rfl⟩
theorem core3o {a : GT} (h : a.ok 3) (hB : BBo y e a) {i n : Nat} {d : Int} (hm : M y i (a.tk 3)) (hx : isT' y (i + (a.tk 3).length) 4 [91] = false) (hn : 16 ≤ d + n) :
    O15 (itS y e (SB y e n) d i) (oftR a.fl (oftS y e (i + (a.tk 3).length))) := by
  have hbk := xZjt a 3
  cases a with
  | leaf neg v t o =>
    cases neg with
    | true => exact absurd rfl (h.1 rfl)
    | false =>
      rw [GT.tk] at hm hx ⊢
      exact .inl (xZmr h.2.2.2 hm hx)
  | rep lo hi b =>
    have : (GT.rep lo hi b).isB 3 = true := rfl
    rw [this] at hbk
    rw [hbk] at hm ⊢
    exact xZjW hB hm hn
  | lst alt bs =>
    have : (GT.lst alt bs).isB 3 = true := by simp [GT.isB]
    rw [this] at hbk
    rw [hbk] at hm ⊢
    exact xZjW hB hm hn
theorem xZjo {lo hi : Int} {a : GT} {w : Int} (h : (GT.rep lo hi a).ok w) (hB : BBo y e a) : IBo y e (.rep lo hi a) := fun i n d hm _ hn => by
  have e0 : (GT.rep lo hi a).tk 0 = a.tk 3 ++ timK lo hi := by rw [GT.tk]; rfl
  rw [e0] at hm ⊢
  obtain ⟨m1, m2⟩ := M_app.1 hm
  obtain ⟨o1, o2⟩ := xZnC (e := e) h.1 m2
  rcases core3o h.2 hB m1 o2 hn with hq | hq
  · left
    rw [hq, o1, List.length_append, ← Nat.add_assoc]
    rfl
  · exact .inr hq
theorem xZiG {alt : Bool} {f : Nat → RG} {E : Nat → Prop} (hE : ∀ j, E j → isT' y j 4 (spB alt) = false) : ∀ (bs : List GT) (m j : Nat) (s : Int × List xZ2), GT.oks bs (kA alt) →
    (∀ b ∈ bs, ∀ i, M y i (b.tk (kA alt)) → (ke (tk y (i + (b.tk (kA alt)).length)) = sg (spB alt) ∨ E (i + (b.tk (kA alt)).length)) → O15 (f i) (.inr (b.fl, i + (b.tk (kA alt)).length))) →
    M y j (GT.tkr bs alt) → E (j + (GT.tkr bs alt).length) → bs.length ≤ m → O15 (lpS y (kA alt) (spB alt) f m s j) (.inr (hdN (kA alt) (s.1 + bs.length, s.2 ++ GT.fls bs), j + (GT.tkr bs alt).length))
  | [], m, j, s, _, _, _, he, _ => by
    have := hE j he
    left
    rw [xZiu (by rw [this]; decide)]
    simp [GT.fls, GT.tkr]
  | b :: r, 0, j, s, _, _, _, _, hl => by simp at hl
  | b :: r, m + 1, j, s, ho, hf, hm, he, hl => by
    rw [GT.tkr] at hm he
    obtain ⟨h1, h2⟩ := M_app.1 hm
    obtain ⟨h0, h1⟩ := h1
    simp only [List.length_cons] at h2
    have hsep : isT' y j 4 (spB alt) = true := by rw [xZO h0]; cases alt <;> rfl
    have hnext : ke (tk y (j + 1 + (b.tk (kA alt)).length)) = sg (spB alt) ∨ E (j + 1 + (b.tk (kA alt)).length) := by
      cases r with
      | nil =>
        right
        simp only [GT.tkr, List.append_nil, List.length_cons] at he
        rwa [show j + ((b.tk (kA alt)).length + 1) = j + 1 + (b.tk (kA alt)).length by omega] at he
      | cons c r =>
        left
        rw [GT.tkr] at h2
        have := (M_app.1 h2).1.1
        rwa [show j + ((b.tk (kA alt)).length + 1) = j + 1 + (b.tk (kA alt)).length by omega] at this
    obtain ⟨nd, q, q1, q2⟩ := fl_hd b ho.1 (by cases alt <;> decide)
    have hadd : addG (kA alt) s b.fl = (s.1 + 1, s.2 ++ b.fl) := by rw [q1, addG, if_neg q2]
    rw [lpS, if_pos hsep]
    rcases hf b (List.mem_cons_self ..) (j + 1) h1 hnext with hb | ⟨z, hb⟩
    · rw [hb]
      show O15 (lpS y (kA alt) (spB alt) f m (addG (kA alt) s b.fl) (j + 1 + (b.tk (kA alt)).length)) _
      have ih := xZiG hE r m (j + 1 + (b.tk (kA alt)).length) (s.1 + 1, s.2 ++ b.fl) ho.2 (fun c hc => hf c (List.mem_cons_of_mem _ hc)) (by rwa [show j + 1 + (b.tk (kA alt)).length = j + ((b.tk (kA alt)).length + 1) by omega])
        (by simp only [List.length_append, List.length_cons] at he; rwa [show j + 1 + (b.tk (kA alt)).length + (GT.tkr r alt).length = j + ((b.tk (kA alt)).length + 1 + (GT.tkr r alt).length) by omega]) (by simp only [List.length_cons] at hl; omega)
      rw [hadd]
      simp only [GT.fls, GT.tkr, List.length_cons, List.length_append, List.append_assoc] at ih ⊢
      rw [show s.1 + 1 + (r.length : Int) = s.1 + ((r.length + 1 : Nat) : Int) by omega, show j + 1 + (b.tk (kA alt)).length + (GT.tkr r alt).length = j + ((b.tk (kA alt)).length + 1 + (GT.tkr r alt).length) by omega] at ih
      exact ih
    · rw [hb]; exact .inr ⟨z, rfl⟩
theorem xZhO {alt : Bool} {f : Nat → RG} {E : Nat → Prop} (hE : ∀ j, E j → isT' y j 4 (spB alt) = false) {bs : List GT} {i : Nat} (hl : 2 ≤ bs.length) (ho : GT.oks bs (kA alt))
    (hf : ∀ b ∈ bs, ∀ i, M y i (b.tk (kA alt)) → (ke (tk y (i + (b.tk (kA alt)).length)) = sg (spB alt) ∨ E (i + (b.tk (kA alt)).length)) → O15 (f i) (.inr (b.fl, i + (b.tk (kA alt)).length)))
    (hm : M y i ((GT.tkr bs alt).drop 1)) (he : E (i + ((GT.tkr bs alt).drop 1).length)) : O15 (lsS y (kA alt) (spB alt) f i) (.inr ((GT.lst alt bs).fl, i + ((GT.tkr bs alt).drop 1).length)) := by
  obtain ⟨a, b, r, rfl⟩ : ∃ a b r, bs = a :: b :: r := by
    match bs, hl with
    | a :: b :: r, _ => exact ⟨a, b, r, rfl⟩
  have e0 : (GT.tkr (a :: b :: r) alt).drop 1 = a.tk (kA alt) ++ GT.tkr (b :: r) alt := by rw [GT.tkr]; rfl
  rw [e0] at hm he ⊢
  obtain ⟨h1, h2⟩ := M_app.1 hm
  have hsg : ke (tk y (i + (a.tk (kA alt)).length)) = sg (spB alt) := by
    rw [GT.tkr] at h2
    exact (M_app.1 h2).1.1
  have hsep : isT' y (i + (a.tk (kA alt)).length) 4 (spB alt) = true := by rw [xZO hsg]; cases alt <;> rfl
  obtain ⟨nd, q, q1, q2⟩ := fl_hd a ho.1 (by cases alt <;> decide)
  have hadd : addG (kA alt) (0, []) a.fl = (1, a.fl) := by rw [q1, addG, if_neg q2]; simp
  unfold lsS
  rcases hf a (List.mem_cons_self ..) i h1 (.inl hsg) with ha | ⟨z, ha⟩
  · rw [ha]
    simp only [hsep, if_true, hadd]
    have ih := xZiG hE (b :: r) (y.length - (i + (a.tk (kA alt)).length)) (i + (a.tk (kA alt)).length) (1, a.fl) ho.2 (fun c hc => hf c (List.mem_cons_of_mem _ hc)) h2 (by rw [List.length_append] at he; rwa [Nat.add_assoc]) (xZl4 _ _ h2)
    rw [show (1 : Int) + ((b :: r).length : Int) = ((a :: b :: r).length : Int) by simp only [List.length_cons]; omega] at ih
    rw [List.length_append, ← Nat.add_assoc]
    exact ih
  · rw [ha]; exact .inr ⟨z, rfl⟩
def PGo (y : List xZ0) (e : Int) (t : GT) : Prop := (t.isL = false → IBo y e t) ∧ (t.isA = false → RBo y e t) ∧ BBo y e t
theorem xZgu {t : GT} (h : IBo y e t) : RBo y e t := fun i n d hm hx h59 h2 h3 => by
  unfold lsS
  rcases h i n d hm hx h3 with hq | ⟨a, hq⟩
  · rw [hq]; left; simp only [h59, Bool.false_eq_true, if_false]
  · rw [hq]; exact .inr ⟨a, rfl⟩
theorem xZhK {t : GT} (h : RBo y e t) : BBo y e t := fun i n d hm hx h59 h124 h2 h3 => by
  obtain ⟨n, rfl⟩ : ∃ k, n = k + 1 := ⟨n - 1, by omega⟩
  show O15 (lsS y 2 [124] (lsS y 1 [59] (itS y e (SB y e n) d)) i) _
  rw [lsS]
  rcases h i n d hm hx h59 h2 (by omega) with hq | ⟨a, hq⟩
  · rw [hq]; left; simp only [h124, Bool.false_eq_true, if_false]
  · rw [hq]; exact .inr ⟨a, rfl⟩
theorem kid1o {t : GT} (h : t.ok 1) (hp : PGo y e t) {i n : Nat} {d : Int} (hm : M y i (t.tk 1)) (hx : Nx y (i + (t.tk 1).length)) (hn : 16 ≤ d + n) :
    O15 (itS y e (SB y e n) d i) (.inr (t.fl, i + (t.tk 1).length)) := by
  have hbk := xZjt t 1
  cases t with
  | leaf neg v u o =>
    have hbk : (GT.leaf neg v u o).tk 1 = (GT.leaf neg v u o).tk 0 := hbk
    rw [hbk] at hm hx ⊢
    exact hp.1 rfl i n d hm hx hn
  | rep lo hi a =>
    have hbk : (GT.rep lo hi a).tk 1 = (GT.rep lo hi a).tk 0 := hbk
    rw [hbk] at hm hx ⊢
    exact hp.1 rfl i n d hm hx hn
  | lst alt bs =>
    cases alt with
    | false => exact absurd rfl h.1
    | true =>
      have : (GT.lst true bs).isB 1 = true := rfl
      rw [this] at hbk
      rw [hbk] at hm hx ⊢
      have := xZjW hp.2.2 hm hn
      rw [xZgh hx] at this
      exact this
theorem xZoH {neg : Bool} {v t : List UInt8} {o : Option TT} (ho : oK o) : PGo y e (.leaf neg v t o) := by
  have h1 : IBo y e (.leaf neg v t o) := fun i n d hm hx _ => .inl (xZkp ho hm hx)
  exact ⟨fun _ => h1, fun _ => xZgu h1, xZhK (xZgu h1)⟩
theorem xZps {lo hi : Int} {a : GT} {w : Int} (h : (GT.rep lo hi a).ok w) (ha : PGo y e a) : PGo y e (.rep lo hi a) := by
  have h1 := xZjo h ha.2.2
  exact ⟨fun _ => h1, fun _ => xZgu h1, xZhK (xZgu h1)⟩
theorem xZpO {alt : Bool} {bs : List GT} {w : Int} (h : (GT.lst alt bs).ok w) (hb : ∀ b ∈ bs, PGo y e b) : PGo y e (.lst alt bs) := by
  obtain ⟨g1, g2, g3, g4⟩ := h
  cases alt with
  | false =>
    have hR : RBo y e (.lst false bs) := fun i n d hm hx h59 h2 h3 => by
      rw [xZmS] at hm hx h59 ⊢
      refine xZhO (alt := false) (E := fun j => Nx y j ∧ isT' y j 4 [59] = false) (fun j hj => hj.2) g2 g4 (fun b hbm j hm' hn' => ?_) hm ⟨hx, h59⟩
      exact kid1o (xZiH g4 hbm) (hb b hbm) hm' (hn'.elim (fun q => Nx_sg q (.inl rfl)) fun q => q.1) h3
    exact ⟨fun q => (by cases q), fun _ => hR, xZhK hR⟩
  | true =>
    refine ⟨fun q => (by cases q), fun q => (by cases q), fun i n d hm hx h59 h124 h2 h3 => ?_⟩
    obtain ⟨n, rfl⟩ : ∃ k, n = k + 1 := ⟨n - 1, by omega⟩
    rw [xZmS] at hm hx h59 h124 ⊢
    show O15 (lsS y 2 [124] (lsS y 1 [59] (itS y e (SB y e n) d)) i) _
    refine xZhO (alt := true) (E := fun j => Nx y j ∧ isT' y j 4 [59] = false ∧ isT' y j 4 [124] = false) (fun j hj => hj.2.2) g2 g4 (fun b hbm j hm' hn' => ?_) hm ⟨hx, h59, h124⟩
    have hbo : b.ok 2 := xZiH g4 hbm
    have hbk := xZjt b 2
    have hB : b.isB 2 = false ∧ b.isA = false := by
      cases b with
      | leaf neg v t o => exact ⟨rfl, rfl⟩
      | rep lo hi a => exact ⟨rfl, rfl⟩
      | lst alt' bs' =>
        cases alt' with
        | true => exact absurd rfl hbo.1
        | false => exact ⟨rfl, rfl⟩
    rw [hB.1] at hbk
    have hbk : b.tk 2 = b.tk 0 := hbk
    have hk2 : b.tk (kA true) = b.tk 0 := hbk
    rw [hk2] at hm' hn' ⊢
    refine (hb b hbm).2.1 hB.2 j n d hm' ?_ ?_ h2 (by omega)
    · exact hn'.elim (fun q => Nx_sg q (.inr rfl)) fun q => q.1
    · exact hn'.elim (fun q => by rw [xZO q]; rfl) fun q => q.2.1
mutual
theorem po_g : ∀ (t : GT) (w : Int), t.ok w → PGo y e t
  | .leaf neg v t o, w, h => xZoH h.2.2.2
  | .rep lo hi a, w, h => xZps h (po_g a 3 h.2)
  | .lst alt bs, w, h => xZpO h (po_gs bs (kA alt) h.2.2.2)
theorem po_gs : ∀ (bs : List GT) (w : Int), GT.oks bs w → ∀ b ∈ bs, PGo y e b
  | [], w, _, b, hb => by cases hb
  | a :: r, w, h, b, hb => by
    rcases List.mem_cons.1 hb with q | hb
    · rw [q]; exact po_g a w h.1
    · exact po_gs r w h.2 b hb
end
end
end
section
theorem xZpN {y : List xZ0} {e wi m : Int} {b : List UInt8} {fl : List xZ2} {ts : List Tk} (hy : y.length ≤ 700) (hO : O15 (SB y e 17 0 0) (.inr (fl, ts.length))) (h4 : m = 1 ∨ m = 2 ∨ m = 3) (hb : b = [] ∨ nm b = true)
    (hm : M y 0 (ts ++ btK wi b m)) (hl : y.length = (ts ++ btK wi b m).length) : W (fun N => xZm N y 0 e) (fun r => (∃ j : Int, r = .inl (⟨fl, wi, b, m⟩, y, j, e)) ∨ ∃ a j : Int, r = .inr (15, a, y, j, e)) := by
  obtain ⟨m1, m2⟩ := M_app.1 hm
  rw [Nat.zero_add] at m2
  obtain ⟨k1, k2, m3⟩ := m2
  rw [List.length_append] at hl
  have hg := g_all (e := e) hy 17 0 0 (by omega) (by omega) (by omega) (Nat.zero_le _)
  simp only [xZm]
  refine W.call (show W (fun N => xZ2S N 0 y 0 e) _ from hg) ?_
  intro r hr
  rcases hO with hP | ⟨a, hP⟩
  rotate_left
  · rw [hP] at hr
    obtain ⟨j, rfl⟩ := hr
    simp only [Sum.elim_inr, W.ret]
    exact .inr ⟨_, _, rfl⟩
  rw [hP] at hr
  have hr : r = .inl (fl, y, ((ts.length : Nat) : Int), e) := hr
  subst hr
  generalize ts.length = L at *
  have hbl : 3 ≤ (btK wi b m).length := by simp only [btK, List.length_cons, List.length_append, List.length_nil]; omega
  have hw : isT' y L 2 [119, 105, 116, 104, 105, 110] = true := by rw [xZO k1]; rfl
  simp only [Sum.elim_inl, xZ9R (y := y) (i := L) (e := e) (show (2 : Int) ≠ 0 by decide) _ (show L ≤ 1000000 by omega), if_pos hw, Option.bind_some, xZmE (y := y) (i := L + 1) (e := e) (show L + 1 ≤ 1000000 by omega), xZhT k2,
    xZ93 (y := y) (i := L + 1 + 1) (e := e) (show (2 : Int) ≠ 0 by decide) _ (show L + 1 + 1 ≤ 1000000 by omega)]
  by_cases hbe : b = []
  · subst hbe
    rw [if_pos rfl, List.nil_append] at m3
    have k3 := m3.1
    have hby : isT' y (L + 1 + 1) 2 [98, 121] = false := by
      rw [xZO k3]
      rcases h4 with rfl | rfl | rfl <;> rfl
    have hlen : y.length = L + 3 := by rw [hl]; simp [btK]
    simp only [hby, Bool.false_eq_true, if_false, cond_false]
    refine W.call (xZmP hy (by omega) h4 k3) ?_
    rintro _ rfl
    have hlt : ltB ((L + 1 + 1 + 1 : Nat) : Int) (y.length : Int) = false := by rw [xZ8b]; exact decide_eq_false (by omega)
    simp only [Sum.elim_inl, hlt, cond_false, W.ret]
    exact .inl ⟨_, rfl⟩
  · rw [if_neg hbe] at m3
    obtain ⟨k3, k4, k5, _⟩ := m3
    have hby : isT' y (L + 1 + 1) 2 [98, 121] = true := by rw [xZO k3]; rfl
    have hlen : y.length = L + 5 := by rw [hl]; simp [btK, hbe]
    have n1 : (tk y (L + 1 + 1 + 1)).Kind = 1 := congrArg (·.1) k4
    have n2 : (tk y (L + 1 + 1 + 1)).Text = b := congrArg (·.2.1) k4
    simp only [hby, if_true, cond_true, xZfg (y := y) (i := L + 1 + 1 + 1) (e := e) (show L + 1 + 1 + 1 ≤ 1000000 by omega), if_pos n1, n2, Option.bind_some, Sum.elim_inl]
    refine W.call (xZmP hy (by omega) h4 k5) ?_
    rintro _ rfl
    have hlt : ltB ((L + 1 + 1 + 1 + 1 + 1 : Nat) : Int) (y.length : Int) = false := by rw [xZ8b]; exact decide_eq_false (by omega)
    simp only [Sum.elim_inl, hlt, cond_false, W.ret]
    exact .inl ⟨_, rfl⟩
def bkT : Nat → List UInt8 → List UInt8
  | 0, x => x
  | k + 1, x => 40 :: (bkT k x ++ [32, 41])
def bkK : Nat → List Tk → List Tk
  | 0, x => x
  | k + 1, x => brk true (bkK k x)
theorem xZkL : ∀ (k : Nat) (x : List UInt8), (bkT k x).length = x.length + 3 * k
  | 0, x => rfl
  | k + 1, x => by have := xZkL k x; simp only [bkT, List.length_cons, List.length_append, List.length_nil]; omega
theorem xZoa {x : List UInt8} {ts : List Tk} (h : Cut x ts) : ∀ k, Cut (bkT k x) (bkK k ts)
  | 0 => h
  | k + 1 => by
    show Cut ([40] ++ (bkT k x ++ ([32] ++ [41]))) ([sg [40]] ++ (bkK k ts ++ ([] ++ [sg [41]])))
    exact sc2 s40 (sc1 (xZoa h k) hd32 (sc2 xZ5c s41.sc))
section
variable {y : List xZ0} {e : Int}
theorem xZle {t : GT} (ht : t.ok 0) : ∀ (k i n : Nat) (d : Int), M y i (bkK k (t.tk 0)) → Nx y (i + (bkK k (t.tk 0)).length) → isT' y (i + (bkK k (t.tk 0)).length) 4 [59] = false → isT' y (i + (bkK k (t.tk 0)).length) 4 [124] = false →
    d ≤ 16 → 17 ≤ d + n → O15 (SB y e n d i) (.inr (t.fl, i + (bkK k (t.tk 0)).length))
  | 0, i, n, d, hm, hx, h59, h124, h2, h3 => (po_g (y := y) (e := e) t 0 ht).2.2 i n d hm hx h59 h124 h2 h3
  | k + 1, i, n, d, hm, hx, h59, h124, h2, h3 => by
    obtain ⟨n, rfl⟩ : ∃ m, n = m + 1 := ⟨n - 1, by omega⟩
    have hit := xZjW (y := y) (e := e) (l := t.fl) (ts := bkK k (t.tk 0)) (fun i n d => xZle ht k i n d) (i := i) (n := n) (d := d) hm (by omega)
    have hx' : Nx y (i + (brk true (bkK k (t.tk 0))).length) := hx
    rw [xZgh hx'] at hit
    show O15 (lsS y 2 [124] (lsS y 1 [59] (itS y e (SB y e n) d)) i) _
    have h1 : O15 (lsS y 1 [59] (itS y e (SB y e n) d) i) (.inr (t.fl, i + (bkK (k + 1) (t.tk 0)).length)) := by
      rw [lsS]
      rcases hit with hq | ⟨a, hq⟩
      · rw [hq]; left
        show (if isT' y (i + (bkK (k + 1) (t.tk 0)).length) 4 [59] = true then _ else _) = _
        rw [h59]; rfl
      · rw [hq]; exact .inr ⟨a, rfl⟩
    rw [lsS]
    rcases h1 with hq | ⟨a, hq⟩
    · rw [hq]; left
      show (if isT' y (i + (bkK (k + 1) (t.tk 0)).length) 4 [124] = true then _ else _) = _
      rw [h124]; rfl
    · rw [hq]; exact .inr ⟨a, rfl⟩
end
end
section
open Go Classical
theorem xZmM (a b : List xZ1) (hl : a.length ≤ 1000000000) : W (fun N => xZ7E N a b) (· = decide (a = b)) := by
  simp only [xZ7E]
  refine wid.2 ?_
  simp only [xZ3a, xZq5, W.cond, W.ret]
  refine ⟨fun h => ?_, fun h => ?_⟩
  · have h : ¬ a.length = b.length := by simpa using h
    rw [decide_eq_false (fun he => h (by rw [he]))]
  · refine w_eqs (by simpa using h) hl (fun F i e g h1 h2 h3 h4 => ?_) (fun F h => ?_)
    · simp only [xZ1T, h1, h2, h3, h4, Option.bind_some, cond_true, xZ1e, xZoO]
      refine ⟨fun he => ?_, fun he r hr => ?_⟩
      · simp only [decide_eq_false he, Bool.not_false, cond_true]; exact W.ret.2 rfl
      · simp only [decide_eq_true he, Bool.not_true, cond_false]; exact hr
    · simp only [xZ1T, h, cond_false]; exact W.ret.2 rfl
end
section
open Go Classical
theorem xZo0 (v : xZ4) (hv : okS v.Text) : W (fun N => xZ6x N v) fun r => ¬ 0 < r → v.Text.length ≤ 100 := by
  have := xZqc hv
  simp only [xZ6x, W.gd, W.ret, xZG]
  exact ⟨by omega, fun h => by omega⟩
theorem xZp5 (l : List xZ1) (hl : l.length ≤ 10000) : W (fun N => xZ9r N l) (· = l) := by
  simp only [xZ9r]
  refine wf2a (l := l) (fun pre ys => ys = pre) [] rfl rfl (by omega) rfl ?_ ?_
  · rintro F pre e rest ys hl' h1 h2 h3 rfl hn
    simp only [xZ6I, h1, h2, h3, Option.bind_some, cond_true, W.gd, true_and]
    refine ⟨Nat.ble_eq_true_of_le (by rw [hl'] at hl; simp at hl; omega), hn _ rfl⟩
  · rintro F ys h1 rfl
    simp only [xZ6I, h1, cond_false, W.ret]
theorem xZoc (l : List xZ1) (hl : okL (fun n : xZ1 => okS n.Val.Text) l) : W (fun N => xZ8w N l) fun b => ¬ 0 < b → l.length ≤ 40 ∧ ∀ n ∈ l, n.Var.length ≤ 40 ∧ n.Name.length ≤ 40 ∧ n.Val.Text.length ≤ 100 := by
  have hlen : l.length ≤ 9223372036854775807 := hl.2
  simp only [xZ8w, W.cond, W.ret, xZX, xZ1u]
  refine ⟨fun h h2 => absurd (by omega) h2, fun h => ?_⟩
  refine wf1 (l := l) (fun pre => ∀ n ∈ pre, n.Var.length ≤ 40 ∧ n.Name.length ≤ 40 ∧ n.Val.Text.length ≤ 100) [] rfl rfl (by omega) (by simp) ?_ ?_
  · intro F pre e rest hl' h1 h2 h3 hp hn
    have he := hl.1 e (by rw [hl']; simp)
    simp only [xZ5o, h1, h2, h3, Option.bind_some, cond_true, W.cond, W.ret, xZ1e, xZX, xZ1u]
    refine ⟨fun _ h => absurd (by omega) h, fun h40 => ⟨fun _ h => absurd (by omega) h, fun h41 => ?_⟩⟩
    refine W.call (xZo0 e.Val he) fun b hb => ?_
    simp only [W.cond, W.ret, xZX, xZ1u]
    refine ⟨fun _ h => absurd (by omega) h, fun hb0 => hn fun t ht => ?_⟩
    rcases List.mem_append.1 ht with ht | ht
    · exact hp t ht
    · rw [List.mem_singleton.1 ht]; exact ⟨by omega, by omega, hb (by omega)⟩
  · intro F h1 hp
    simp only [xZ5o, h1, cond_false, W.ret]
    exact fun _ => ⟨by omega, hp⟩
theorem xZom (p : xZ5) (hp : xZ4x p) : W (fun N => xZ8n N p) fun b => ¬ 0 < b → p.Body.length ≤ 50 ∧ p.By.length ≤ 40 ∧ ∀ n ∈ p.Body, n.Test.length ≤ 40 := by
  have hlen : p.Body.length ≤ 9223372036854775807 := hp.1.2
  simp only [xZ8n, W.cond, W.ret, xZX, xZ1u]
  refine ⟨fun h h2 => absurd (by omega) h2, fun h => ⟨fun h' h2 => absurd (by omega) h2, fun h' => ?_⟩⟩
  refine wf1 (l := p.Body) (fun pre => ∀ n ∈ pre, n.Test.length ≤ 40) [] rfl rfl (by omega) (by simp) ?_ ?_
  · intro F pre e rest hl' h1 h2 h3 hq hn
    have he := hp.1.1 e (by rw [hl']; simp)
    have ht := he.2.2.2.2.2.2
    simp only [xZ5x, h1, h2, h3, Option.bind_some, cond_true, W.cond, W.ret, xZ1e, xZX, xZ1u]
    refine ⟨fun _ h => absurd (by omega) h, fun h40 => ⟨fun _ h => absurd (by omega) h, fun h41 => ?_⟩⟩
    refine W.call (xZoc e.Test ⟨fun n hn => (ht.1 n hn).2.2.2.2.2.2.2, ht.2⟩) fun b hb => ?_
    simp only [W.cond, W.ret, xZX, xZ1u]
    refine ⟨fun _ h => absurd (by omega) h, fun hb0 => hn fun t ht => ?_⟩
    rcases List.mem_append.1 ht with ht | ht
    · exact hq t ht
    · rw [List.mem_singleton.1 ht]; exact (hb (by omega)).1
  · intro F h1 hq
    simp only [xZ5x, h1, cond_false, W.ret]
    exact fun _ => ⟨by omega, by omega, hq⟩
theorem xZp7 (p : xZ5) (h50 : p.Body.length ≤ 50) (ht : ∀ n ∈ p.Body, n.Test.length ≤ 40) : W (fun N => xZ9q N p) (· = p) := by
  simp only [xZ9q]
  refine wf2a (l := p.Body) (fun pre ys => ys = pre) [] rfl rfl (by omega) rfl ?_ ?_
  · rintro F pre e rest ys hl' h1 h2 h3 rfl hn
    simp only [xZ6t, h1, h2, Option.bind_some, cond_true]
    refine W.call (xZp5 e.Test (by have := ht e (by rw [hl']; simp); omega)) ?_
    rintro _ rfl
    simp only [h3, W.gd, true_and]
    exact ⟨Nat.ble_eq_true_of_le (by rw [hl'] at h50; simp at h50; omega), hn _ rfl⟩
  · rintro F ys h1 rfl
    simp only [xZ6t, h1, cond_false, W.ret]
theorem xZlx (p : xZ5) (h50 : p.Body.length ≤ 50) (ht : ∀ n ∈ p.Body, n.Test.length ≤ 40) : W (fun N => xZ5F N p p) (· = true) := by
  have e1 : ∀ a : Int, (a == a) = true := fun a => by simp
  have e2 : ∀ a : List UInt8, (a == a) = true := fun a => by simp
  have hne : ((List.length p.Body : Int) != (List.length p.Body : Int)) = false := by simp
  simp only [xZ5F, e1, e2, cond_true, xZ1p, hne, cond_false]
  refine wid.2 ?_
  refine wf1 (l := p.Body) (fun _ => True) [] rfl rfl (by omega) trivial ?_ ?_
  · intro F pre e rest hl' h1 h2 h3 _ hn
    simp only [xZM, h1, h2, Option.bind_some, cond_true, xZa0, e1, e2]
    refine W.call (f := fun N => (xZ7E N e.Test e.Test).bind fun same => some same) (P := (· = true)) (wid.2 ((xZmM e.Test e.Test (by have := ht e (by rw [hl']; simp); omega)).mp fun a h => by rw [h]; exact decide_eq_true rfl)) ?_
    rintro _ rfl
    simp only [Bool.not_true, cond_false, h3, xZ1e]
    exact hn trivial
  · intro F h1 _
    simp only [xZM, h1, cond_false, W.ret]
end
section
open Go Classical
theorem xZod : W (fun N => xZ2e N) fun r => r = true := ⟨true, ⟨300, fun N hN => by
  simp only [xZ2e, Nat.ble_eq_true_of_le hN, cond_true]⟩, rfl⟩
theorem kaw14 {ι : Type} [Lim ι] (N : ι → Nat) [Tends N] : W (fun i => (xZ2e (N i)).bind fun a => some a) (· = true) := wid.2 (xZod.of N)
theorem xZkw {wi m : Int} {b : List UInt8} (h1 : 1 ≤ wi) (h2 : wi ≤ 1073741824) (hb : b = [] ∨ nm b = true) (hm : m = 1 ∨ m = 2 ∨ m = 3) : (btT wi b m).length ≤ 1000 := by
  have a1 := xZh3 (show 0 ≤ wi by omega) h2
  have a2 : (wdS m).length ≤ 6 := by rcases hm with rfl | rfl | rfl <;> decide
  rcases hb with rfl | h
  · simp [btT]; omega
  · have a3 := (xZbz h).1
    have : (if b = [] then ([] : List UInt8) else 32 :: 98 :: 121 :: 32 :: b).length ≤ 20 := by
      split
      · simp
      · simp; omega
    simp only [btT, List.length_append, List.length_cons] at this ⊢
    simp; omega
theorem xZjs {p : xZ5} {t : GT} {k : Nat} (hc : chkG p = 0) (h1 : 1 ≤ p.Within) (h2 : p.Within ≤ 1073741824) (hb : p.By = [] ∨ nm p.By = true) (hm : p.Mode = 1 ∨ p.Mode = 2 ∨ p.Mode = 3) (ht : t.ok 0) (hf : p.Body = t.fl) (hl : (bkT k (t.tx 0) ++ btT p.Within p.By p.Mode).length ≤ 600) :
    W (fun N => xZ50 N (bkT k (t.tx 0) ++ btT p.Within p.By p.Mode)) (fun r => r = .inl p ∨ ∃ c a, r = .inr (⟨[], 0, [], 0⟩, c, a) ∧ (c = 7 ∨ c = 15)) := by
  generalize hT : bkT k (t.tx 0) ++ btT p.Within p.By p.Mode = T at hl ⊢
  have hcut : Cut T (bkK k (t.tk 0) ++ btK p.Within p.By p.Mode) := hT ▸ sc1 (xZoa (cut_g t 0 ht) k) (hdD dl32) (xZqp h1 h2 hb hm)
  obtain ⟨x1, x2⟩ := hcut [] 0 [] (.inl rfl) (by simp)
  rw [List.append_nil, List.length_nil, Nat.zero_add] at x1 x2
  simp only [xZ50]
  refine W.call (xZpn T (by omega)) ?_
  rintro _ rfl
  have hsc : scan T = scanR T 0 [] := by rw [scan, if_neg (by omega)]
  rw [hsc]
  by_cases hk : (bkK k (t.tk 0) ++ btK p.Within p.By p.Mode).length ≤ 200
  · obtain ⟨ms, m1, m2⟩ := x1 hk
    rw [xZgA, List.nil_append] at m2
    have hlen : ms.length = (bkK k (t.tk 0) ++ btK p.Within p.By p.Mode).length := by rw [← m1, List.length_map]
    have hM : M ms 0 (bkK k (t.tk 0) ++ btK p.Within p.By p.Mode) := M_of (p := []) (r := ms) rfl (by rw [← hlen, ← List.length_map (f := ke), List.take_length, m1])
    obtain ⟨q1, q2⟩ := M_app.1 hM
    have hkw := q2.1
    rw [Nat.zero_add] at hkw
    have hO := xZle (y := ms) (e := (T.length : Int)) ht k 0 17 0 q1 (by rw [Nat.zero_add]; exact ⟨Nx_kw hkw _, Nx_kw hkw _, Nx_kw hkw _, Nx_kw hkw _, Nx_kw hkw _⟩) (by rw [Nat.zero_add]; exact Nx_kw hkw _) (by rw [Nat.zero_add]; exact Nx_kw hkw _) (by omega) (by omega)
    rw [Nat.zero_add] at hO
    rw [m2]
    simp only [scanE, Sum.elim_inl, xZ1i]
    refine W.bind (P := fun r => (∃ j : Int, r = .inl (⟨t.fl, p.Within, p.By, p.Mode⟩, ms, j, (T.length : Int))) ∨ ∃ a j : Int, r = .inr (⟨[], 0, [], 0⟩, 15, a, ms, j, (T.length : Int))) (W.bind (show W (fun N => xZm N ms 0 (T.length : Int)) _ from xZpN (by omega) hO hm hb hM hlen) ?_) ?_
    · rintro _ (⟨j, rfl⟩ | ⟨a, j, rfl⟩)
      · exact W.ret.2 (.inl ⟨j, rfl⟩)
      · exact W.ret.2 (.inr ⟨a, j, rfl⟩)
    · rintro _ (⟨j, rfl⟩ | ⟨a, j, rfl⟩)
      · have hp : (⟨t.fl, p.Within, p.By, p.Mode⟩ : xZ5) = p := by rw [← hf]
        simp only [Sum.elim_inl, hp]
        refine W.call (xZ9m p) ?_
        rintro _ rfl
        simp only [hc, show ((0 : Int) != 0) = false from rfl, cond_false, W.ret]
        exact .inl trivial
      · simp only [Sum.elim_inr, W.ret]
        exact .inr ⟨_, _, rfl, .inr rfl⟩
  · obtain ⟨a, ha⟩ := x2 (by omega)
    rw [ha]
    simp only [scanE, Sum.elim_inr, W.ret]
    exact .inr ⟨_, _, rfl, .inl rfl⟩
def bare (p : xZ5) : xZ5 := ⟨[⟨4, 0, 0, 0, [97], [98], []⟩], p.Within, p.By, p.Mode⟩
theorem xZn7 {p : xZ5} (h1 : 1 ≤ p.Within) (h2 : p.Within ≤ 1073741824) (hb : p.By = [] ∨ nm p.By = true) (hm : p.Mode = 1 ∨ p.Mode = 2 ∨ p.Mode = 3) : chkG (bare p) = 0 := by
  have hT : TG 17 [⟨4, 0, 0, 0, [97], [98], []⟩] 0 0 = ([], 0) := by rfl
  unfold chkG bare
  simp only [hT]
  rw [if_neg (by simp), if_neg (by simp), if_neg (by simp), if_neg (by omega), if_neg (by omega), if_neg, if_neg]
  · rcases hm with h | h | h <;> rw [h] <;> decide
  · rintro ⟨h3, h4⟩
    rcases hb with h | h
    · exact h3 h
    · rw [h] at h4; cases h4
theorem xZnf {p : xZ5} (h1 : 1 ≤ p.Within) (h2 : p.Within ≤ 1073741824) (hb : p.By = [] ∨ nm p.By = true) (hm : p.Mode = 1 ∨ p.Mode = 2 ∨ p.Mode = 3) : W (fun N => xZ1z N (bare p)) (· = [97, 58, 98] ++ btT p.Within p.By p.Mode) :=
  xZgy (t := .leaf false [97] [98] none) (xZn7 h1 h2 hb hm) (by simp [bare]) h1 h2 hb hm ⟨(fun h => by cases h), by decide, by decide, trivial⟩ rfl
theorem xZ9O (p : xZ5) (n : Int) (hp : xZ4x p) (hn : inK .u8 n) : W (fun N => xZ2p N p n) (· = true) := by
  have hob : ∀ n ∈ p.Body, okN n.Test := fun n hn m hm => xZoR (((hp.1.1 n hn).2.2.2.2.2.2.1 m hm).2.2.2.2.2.2.1)
  simp only [xZ2p]
  refine W.call (xZom p hp) fun b hb => ?_
  refine W.cond.2 ⟨fun _ => kaw14 _, fun hb0 => ?_⟩
  obtain ⟨l50, _, lt⟩ := hb (by have := xZ1u.1 hb0; omega)
  refine W.call (xZp7 p l50 lt) fun own h => ?_
  obtain rfl := h.symm
  have hbare : W (fun N => xZ1z N (bare p)) (fun u => u.length ≤ 2000) := by
    by_cases hc : chkG (bare p) = 0
    · obtain ⟨_, q2, q3, q4, q5, _⟩ := xZgr (p := bare p) (fun n hn m hm => by simp [bare] at hn; subst hn; simp at hm) hc
      refine (xZnf (p := p) q2 q3 q4 q5).mp fun a ha => ?_
      have := xZkw (wi := p.Within) (b := p.By) (m := p.Mode) q2 q3 q4 q5
      rw [ha, List.length_append]
      simp only [List.length_cons, List.length_nil]
      omega
    · simp only [xZ1z]
      refine W.call (xZ9m (bare p)) ?_
      rintro _ rfl
      simp only [show (chkG (bare p) != 0) = true by simpa using hc, cond_true]
      exact W.ret.2 (by simp)
  by_cases hc : chkG p = 0
  · obtain ⟨q1, q2, q3, q4, q5, t, q6, q7, q8⟩ := xZgr hob hc
    have hbl := xZkw q2 q3 q4 q5
    have htl := xZjh t 0 q6
    have hfl : t.fl.length ≤ 40 := by rw [← q8]; exact q1
    refine W.call (xZgy hc q1 q2 q3 q4 q5 q6 q8) ?_
    rintro _ rfl
    refine W.call (show W (fun N => xZ1z N (xZ5.mk [(xZ2.mk 4 0 0 0 [97] [98] [])] p.Within p.By p.Mode)) _ from xZnf q2 q3 q4 q5) ?_
    rintro _ rfl
    have hpl : (ptT p t).length = (t.tx 0).length + (btT p.Within p.By p.Mode).length := by rw [ptT, List.length_append]
    have hbl2 : ([97, 58, 98] ++ btT p.Within p.By p.Mode).length = 3 + (btT p.Within p.By p.Mode).length := by simp; omega
    have htail : ((ptT p t).length : Int) - (([97, 58, 98] ++ btT p.Within p.By p.Mode).length : Int) + 3 = ((t.tx 0).length : Int) := by rw [hpl, hbl2]; omega
    simp only [htail, W.gd, xZG]
    refine ⟨by rw [hpl, hbl2]; omega, by omega, W.call (xZ9m p) ?_⟩
    rintro _ rfl
    simp only [hc, show ((0 : Int) != 0) = false from rfl, cond_false]
    refine W.cond.2 ⟨fun _ => kaw14 _, fun h500 => ?_⟩
    have h500 := xZ1u.1 h500
    have g1 : ltB ((t.tx 0).length : Int) 0 = false := xZ1u.2 (by omega)
    have g2 : ltB ((ptT p t).length : Int) ((t.tx 0).length : Int) = false := xZ1u.2 (by omega)
    have g3 : leB 0 ((t.tx 0).length : Int) = true := xZ14.2 (by omega)
    have g4 : leB ((t.tx 0).length : Int) ((ptT p t).length : Int) = true := xZ14.2 (by omega)
    simp only [g1, g2, g3, g4, cond_false, W.gd, true_and, Int.toNat_natCast]
    have hd : (ptT p t).drop (t.tx 0).length = btT p.Within p.By p.Mode := by rw [ptT, List.drop_left]
    have htk : (ptT p t).take (t.tx 0).length = t.tx 0 := by rw [ptT, List.take_left]
    rw [hd, htk]
    have hn0 : 0 ≤ n ∧ n ≤ 255 := ⟨(show IntKind.u8.min = 0 by decide) ▸ hn.1, (show IntKind.u8.max = 255 by decide) ▸ hn.2⟩
    have hK : IntKind.i64.wrap (Int.tmod n 9) = n % 9 := by
      rw [Int.tmod_eq_emod_of_nonneg hn0.1, IntKind.wrap_i64]; omega
    refine W.lp2 (P := fun v0 v1 => ∃ k : Nat, v1 = (k : Int) ∧ (k : Int) ≤ n % 9 ∧ v0 = bkT k (t.tx 0)) (m := fun _ v1 => (n % 9 - v1).toNat) ⟨0, rfl, by omega, rfl⟩ ?_
    rintro F v0 v1 ⟨k, rfl, hk, rfl⟩ hnx
    have hbk := xZkL k (t.tx 0)
    simp only [xZ33, hK]
    by_cases hlt : (k : Int) < n % 9
    · simp only [show ltB (k : Int) (n % 9) = true from xZX.2 hlt, cond_true, gN (show 1 + (bkT k (t.tx 0)).length ≤ 1000000 by omega), gN (show (bkT k (t.tx 0)).length + 1 + 2 ≤ 1000000 by omega), xZ1e, W.gd, xZG]
      exact ⟨by omega, hnx _ _ ⟨k + 1, by omega, by omega, rfl⟩ (by omega)⟩
    · simp only [show ltB (k : Int) (n % 9) = false from xZ1u.2 (by omega), cond_false, gN (show (bkT k (t.tx 0)).length + (btT p.Within p.By p.Mode).length ≤ 1000000 by omega), xZ1e]
      refine W.call (xZjs hc q2 q3 q4 q5 q6 q8 (by rw [List.length_append]; omega)) ?_
      rintro _ (rfl | ⟨c, a, rfl, hc7⟩)
      · simp only [Sum.elim_inl]
        refine W.call (show W (fun N => xZ5F N p (xZ5.mk p.Body p.Within p.By p.Mode)) _ from xZlx p l50 lt) ?_
        rintro _ rfl
        exact kaw14 _
      · simp only [Sum.elim_inr, xZ5z, xZ4D, Option.bind_some]
        rcases hc7 with rfl | rfl
        · exact kaw14 _
        · exact kaw14 _
  · refine W.call (f := fun N => xZ1z N p) (P := fun u => u = []) ?_ ?_
    · simp only [xZ1z]
      refine W.call (xZ9m p) ?_
      rintro _ rfl
      simp only [show (chkG p != 0) = true by simpa using hc, cond_true]
      exact W.ret.2 rfl
    rintro _ rfl
    refine W.call (show W (fun N => xZ1z N (xZ5.mk [(xZ2.mk 4 0 0 0 [97] [98] [])] p.Within p.By p.Mode)) _ from hbare) fun u hu => ?_
    simp only [W.gd, xZG, List.length_nil]
    refine ⟨by omega, by omega, W.call (xZ9m p) ?_⟩
    rintro _ rfl
    simp only [show (chkG p != 0) = true by simpa using hc, cond_true]
    exact kaw14 _
end
end Go.Proofs.YtahklhniofiofaaGreatDoor.K
