/- The code, and what each function of it is walked to. No premise beyond what each theorem says. -/
import Derived.Test.YtbioikdfpfafaaaGreatDoorRA4
import Derived.Test.YtbioikdfpfafaaaGreatDoorProg
set_option linter.all false
set_option linter.unusedSimpArgs false
set_option linter.unusedVariables false
namespace Go.Proofs.YtbioikdfpfafaaaGreatDoor.R
open Go
section
open Go.Proofs.Tryz
set_option maxRecDepth 1000000
noncomputable section
structure A40 (α : Type) where
  (i0 i1 i2 i3 i4 i5 i6 i7 i8 i9 i10 i11 i12 i13 i14 i15 i16 i17 i18 i19 i20 i21 i22 i23 i24 i25 i26 i27 i28 i29 i30 i31 i32 i33 i34 i35 i36 i37 i38 i39 : α)
def A40.l {α : Type} (x : A40 α) : List α := [x.i0, x.i1, x.i2, x.i3, x.i4, x.i5, x.i6, x.i7, x.i8, x.i9, x.i10, x.i11, x.i12, x.i13, x.i14, x.i15, x.i16, x.i17, x.i18, x.i19, x.i20, x.i21, x.i22, x.i23, x.i24, x.i25, x.i26, x.i27, x.i28, x.i29, x.i30, x.i31, x.i32, x.i33, x.i34, x.i35, x.i36, x.i37, x.i38, x.i39]
def A40.of {α : Type} : List α → Option (A40 α) := oc fun x0 => oc fun x1 => oc fun x2 => oc fun x3 => oc fun x4 => oc fun x5 => oc fun x6 => oc fun x7 => oc fun x8 => oc fun x9 => oc fun x10 => oc fun x11 => oc fun x12 => oc fun x13 => oc fun x14 => oc fun x15 => oc fun x16 => oc fun x17 => oc fun x18 => oc fun x19 => oc fun x20 => oc fun x21 => oc fun x22 => oc fun x23 => oc fun x24 => oc fun x25 => oc fun x26 => oc fun x27 => oc fun x28 => oc fun x29 => oc fun x30 => oc fun x31 => oc fun x32 => oc fun x33 => oc fun x34 => oc fun x35 => oc fun x36 => oc fun x37 => oc fun x38 => oc fun x39 => on ⟨x0, x1, x2, x3, x4, x5, x6, x7, x8, x9, x10, x11, x12, x13, x14, x15, x16, x17, x18, x19, x20, x21, x22, x23, x24, x25, x26, x27, x28, x29, x30, x31, x32, x33, x34, x35, x36, x37, x38, x39⟩
theorem A40.of_l {α : Type} {l : List α} {x : A40 α} (h : A40.of l = some x) : x.l = l := by
  unfold A40.of at h
  iterate 40 (obtain ⟨_, _, rfl, q⟩ := xZmZ h; clear h; revert q; intro h)
  obtain ⟨rfl, rfl⟩ := xZnR h
  rfl
theorem A40.l_inj {α : Type} {x y : A40 α} (h : x.l = y.l) : x = y := Option.some.inj ((show A40.of x.l = some x from rfl).symm.trans ((congrArg A40.of h).trans rfl))
def A40.c {α : Type} (v : α) : A40 α := ⟨v, v, v, v, v, v, v, v, v, v, v, v, v, v, v, v, v, v, v, v, v, v, v, v, v, v, v, v, v, v, v, v, v, v, v, v, v, v, v, v⟩
def A40.set {α : Type} (x : A40 α) (n : Int) (v : α) : A40 α := ⟨cond (ieq n 0) v x.i0, cond (ieq n 1) v x.i1, cond (ieq n 2) v x.i2, cond (ieq n 3) v x.i3, cond (ieq n 4) v x.i4, cond (ieq n 5) v x.i5, cond (ieq n 6) v x.i6, cond (ieq n 7) v x.i7, cond (ieq n 8) v x.i8, cond (ieq n 9) v x.i9, cond (ieq n 10) v x.i10, cond (ieq n 11) v x.i11, cond (ieq n 12) v x.i12, cond (ieq n 13) v x.i13, cond (ieq n 14) v x.i14, cond (ieq n 15) v x.i15, cond (ieq n 16) v x.i16, cond (ieq n 17) v x.i17, cond (ieq n 18) v x.i18, cond (ieq n 19) v x.i19, cond (ieq n 20) v x.i20, cond (ieq n 21) v x.i21, cond (ieq n 22) v x.i22, cond (ieq n 23) v x.i23, cond (ieq n 24) v x.i24, cond (ieq n 25) v x.i25, cond (ieq n 26) v x.i26, cond (ieq n 27) v x.i27, cond (ieq n 28) v x.i28, cond (ieq n 29) v x.i29, cond (ieq n 30) v x.i30, cond (ieq n 31) v x.i31, cond (ieq n 32) v x.i32, cond (ieq n 33) v x.i33, cond (ieq n 34) v x.i34, cond (ieq n 35) v x.i35, cond (ieq n 36) v x.i36, cond (ieq n 37) v x.i37, cond (ieq n 38) v x.i38, cond (ieq n 39) v x.i39⟩
structure xZ5 where
  Kind : Int
  N : Int
  Bits : Int
  Text : List UInt8
structure xZ1 where
  Kind : Int
  Op : Int
  Var : List UInt8
  Name : List UInt8
  Val : xZ5
structure xZ0 where
  Kind : Int
  Kids : Int
  Lo : Int
  Hi : Int
  Var : List UInt8
  Type_ : List UInt8
  Test : List xZ1
structure xZ6 where
  Body : List xZ0
  Within : Int
  By : List UInt8
  Mode : Int
structure xZ7 where
  Name : List UInt8
  Kind : Int
structure xZ2 where
  Name : List UInt8
  Fields : List xZ7
structure xZ3 where
  Kind : Int
  At : Int
  Text : List UInt8
  Val : xZ5
def xZ6n (N : Nat) (v : xZ5) : Option Int :=
  gd (i64b ((List.length v.Text : Int) - 100)) (
  some (max 0 ((List.length v.Text : Int) - 100)))
def xZ5s (N : Nat) (l : List xZ1) (next0 : Int → Option Int) (i : Int) : Option Int :=
  bif (ltB i (List.length l : Int)) then
   (ix l i).bind fun e =>
   bif (ltB 40 (List.length e.Var : Int)) then
    some 1
   else
    (ix l i).bind fun e2 =>
    bif (ltB 40 (List.length e2.Name : Int)) then
     some 1
    else
     (ix l i).bind fun e3 =>
     (xZ6n N e3.Val).bind fun smal =>
     bif (ltB 0 smal) then
      some 1
     else
      gd (i64b (i + 1)) (
      next0 (i + 1))
  else
   some 0
def xZ85 (N : Nat) (l : List xZ1) : Option Int :=
  bif (ltB 40 (List.length l : Int)) then
   some 1
  else
   lp1 (xZ5s N l) N 0
def xZ5b (N : Nat) (y : List xZ0) (next0 : Int → Option Int) (i : Int) : Option Int :=
  bif (ltB i (List.length y : Int)) then
   (ix y i).bind fun e =>
   bif (ltB 40 (List.length e.Var : Int)) then
    some 1
   else
    (ix y i).bind fun e2 =>
    bif (ltB 40 (List.length e2.Type_ : Int)) then
     some 1
    else
     (ix y i).bind fun e3 =>
     (xZ85 N e3.Test).bind fun over =>
     bif (ltB 0 over) then
      some 1
     else
      gd (i64b (i + 1)) (
      next0 (i + 1))
  else
   some 0
def xZ7O (N : Nat) (p : xZ6) : Option Int :=
  bif (ltB 50 (List.length p.Body : Int)) then
   some 1
  else
   bif (ltB 40 (List.length p.By : Int)) then
    some 1
   else
    lp1 (xZ5b N p.Body) N 0
abbrev xZ5W (N : Nat) (s : List xZ7) : Option (List xZ7) := shClone 24 s
def moreZ (v : xZ5) : Bool := (v.Kind == 0) && ((v.N == 0) && ((v.Bits == 0) && (v.Text == [])))
def moreB (n : xZ1) : Bool :=
  bif n.Kind == 4 then !((n.Var == []) && ((n.Name == []) && moreZ n.Val))
  else bif n.Kind == 7 then !((n.Op == 0) && ((n.Var == []) && moreZ n.Val))
  else bif n.Kind == 8 then !((n.Op == 0) && moreZ n.Val)
  else bif n.Kind == 9 then !((n.Op == 0) && ((n.Var == []) && (n.Name == [])))
  else !((n.Op == 0) && ((n.Var == []) && ((n.Name == []) && moreZ n.Val)))
def xZ5u (N : Nat) (n : xZ1) : Option Bool := some (moreB n)
def xZh (N : Nat) (y : List xZ3) (y2 : Int) (y3 : Int) : Option (xZ3 × List xZ3 × Int × Int) :=
  bif (ltB y2 (List.length y : Int)) then
   (ix y y2).bind fun e =>
   some (e, y, y2, y3)
  else
   some ((xZ3.mk 0 0 [] (xZ5.mk 0 0 0 [])), y, y2, y3)
def xZf (N : Nat) (y : List xZ3) (y2 : Int) (y3 : Int) : Option (Int × List xZ3 × Int × Int) :=
  bif (ltB y2 (List.length y : Int)) then
   (ix y y2).bind fun e =>
   some (e.At, y, y2, y3)
  else
   some (y3, y, y2, y3)
def xZc (N : Nat) (e : Int) (y : List xZ3) (y2 : Int) (y3 : Int) : Option (Int × Int × List xZ3 × Int × Int) :=
  (xZf N y y2 y3).bind fun plac =>
  some (e, plac.1, plac.2.1, plac.2.2.1, plac.2.2.2)
def xZ2S (N : Nat) (deep : Int) (y : List xZ3) (y2 : Int) (y3 : Int) : Option ((Int × Int × List xZ3 × Int × Int) ⊕ (List xZ3 × Int × Int)) :=
  (xZh N y y2 y3).bind fun vnext =>
  bif (vnext.1.Kind == 2) then
   bif (vnext.1.Text == [110, 111, 116]) then
    bif (leB 16 deep) then
     (xZc N 15 vnext.2.1 vnext.2.2.1 vnext.2.2.2).bind fun fail =>
     some (Sum.inl (fail.1, fail.2.1, fail.2.2.1, fail.2.2.2.1, fail.2.2.2.2))
    else
     some (Sum.inr (vnext.2.1, vnext.2.2.1, vnext.2.2.2))
   else
    bif (vnext.1.Kind == 4) then
     bif (vnext.1.Text == [40]) then
      bif (leB 16 deep) then
       (xZc N 15 vnext.2.1 vnext.2.2.1 vnext.2.2.2).bind fun fail2 =>
       some (Sum.inl (fail2.1, fail2.2.1, fail2.2.2.1, fail2.2.2.2.1, fail2.2.2.2.2))
      else
       some (Sum.inr (vnext.2.1, vnext.2.2.1, vnext.2.2.2))
     else
      some (Sum.inr (vnext.2.1, vnext.2.2.1, vnext.2.2.2))
    else
     some (Sum.inr (vnext.2.1, vnext.2.2.1, vnext.2.2.2))
  else
   bif (vnext.1.Kind == 4) then
    bif (vnext.1.Text == [40]) then
     bif (leB 16 deep) then
      (xZc N 15 vnext.2.1 vnext.2.2.1 vnext.2.2.2).bind fun fail3 =>
      some (Sum.inl (fail3.1, fail3.2.1, fail3.2.2.1, fail3.2.2.2.1, fail3.2.2.2.2))
     else
      some (Sum.inr (vnext.2.1, vnext.2.2.1, vnext.2.2.2))
    else
     some (Sum.inr (vnext.2.1, vnext.2.2.1, vnext.2.2.2))
   else
    some (Sum.inr (vnext.2.1, vnext.2.2.1, vnext.2.2.2))
def xZ8 (N : Nat) (kind : Int) (text : List UInt8) (y : List xZ3) (y2 : Int) (y3 : Int) : Option (Bool × List xZ3 × Int × Int) :=
  (xZh N y y2 y3).bind fun vnext =>
  bif (vnext.1.Kind != kind) then
   some (false, vnext.2.1, vnext.2.2.1, vnext.2.2.2)
  else
   bif (!(vnext.1.Text == text)) then
    some (false, vnext.2.1, vnext.2.2.1, vnext.2.2.2)
   else
    gd (i64b (vnext.2.2.1 + 1)) (
    some (true, vnext.2.1, (vnext.2.2.1 + 1), vnext.2.2.2))
def xZ1h (N : Nat) (n : Int) : Option (List xZ1) := gd (leB 0 n) (gd (leB (80 * n) 140737488355328) (some []))
def xZ3k (N : Nat) (x4 : List (List xZ1)) (x5 : Int) (next2 : Int → (List xZ1) → Option ((List UInt8) ⊕ (List xZ1))) (x6 : Int) (ys : List xZ1) : Option ((List UInt8) ⊕ (List xZ1)) :=
  bif (ltB x6 x5) then
   (ix x4 x6).bind fun e2 =>
   gd (Nat.ble ((List.length ys + List.length e2) * 80) 140737488355328) (
   gd (i64b (x6 + 1)) (
   next2 (x6 + 1) (ys ++ e2)))
  else
   some (Sum.inr ys)
def xZ3p (N : Nat) (slices : List (List xZ1)) (x : List (List xZ1)) (x2 : Int) (next0 : Int → Int → Option ((List UInt8) ⊕ (List xZ1))) (size : Int) (x3 : Int) : Option ((List UInt8) ⊕ (List xZ1)) :=
  bif (ltB x3 x2) then
   (ix x x3).bind fun e =>
   gd (i64b (size + (List.length e : Int))) (
   bif (ltB (size + (List.length e : Int)) 0) then
    some (Sum.inl [108, 101, 110, 32, 111, 117, 116, 32, 111, 102, 32, 114, 97, 110, 103, 101])
   else
    gd (i64b (x3 + 1)) (
    next0 (size + (List.length e : Int)) (x3 + 1)))
  else
   (xZ1h N size).bind fun node =>
   lp2 (xZ3k N slices (List.length slices : Int)) N 0 node
def xZ3X (N : Nat) (slices : List (List xZ1)) : Option ((List UInt8) ⊕ (List xZ1)) :=
  lp2 (xZ3p N slices slices (List.length slices : Int)) N 0 0
def xZ1V (N : Nat) (n : xZ1) (kids : List (List xZ1)) : Option (List xZ1) :=
  (xZ3X N kids).bind fun x => Sum.elim
  (fun node =>
   none)
  (fun node2 =>
   gd (Nat.ble ((1 + List.length node2) * 80) 140737488355328) (
   some (n :: node2))) x
def xZH (N : Nat) (kind : Int) (y : List xZ3) (y2 : Int) (y3 : Int) : Option ((Int × Int × List xZ3 × Int × Int) ⊕ (xZ3 × List xZ3 × Int × Int)) :=
  (xZh N y y2 y3).bind fun vnext =>
  bif (vnext.1.Kind != kind) then
   (xZc N 4 vnext.2.1 vnext.2.2.1 vnext.2.2.2).bind fun fail =>
   some (Sum.inl (fail.1, fail.2.1, fail.2.2.1, fail.2.2.2.1, fail.2.2.2.2))
  else
   gd (i64b (vnext.2.2.1 + 1)) (
   some (Sum.inr (vnext.1, vnext.2.1, (vnext.2.2.1 + 1), vnext.2.2.2)))
def xZ1e (N : Nat) (y : List xZ3) (y2 : Int) (y3 : Int) : Option ((Int × Int × List xZ3 × Int × Int) ⊕ (List xZ1 × List xZ3 × Int × Int)) :=
  (xZ8 N 4 [45] y y2 y3).bind fun eat =>
  bif eat.1 then
   (xZh N eat.2.1 eat.2.2.1 eat.2.2.2).bind fun vnext =>
   bif (vnext.1.Val.Kind != 1) then
    (xZc N 4 vnext.2.1 vnext.2.2.1 vnext.2.2.2).bind fun fail =>
    some (Sum.inl (fail.1, fail.2.1, fail.2.2.1, fail.2.2.2.1, fail.2.2.2.2))
   else
    (xZH N 3 vnext.2.1 vnext.2.2.1 vnext.2.2.2).bind fun x => Sum.elim
    (fun take =>
     some (Sum.inl (take.1, take.2.1, take.2.2.1, take.2.2.2.1, take.2.2.2.2)))
    (fun take2 =>
     some (Sum.inr ([(xZ1.mk 9 0 [] [] (xZ5.mk take2.1.Val.Kind (IntKind.i64.wrap (0 - take2.1.Val.N)) take2.1.Val.Bits take2.1.Val.Text))], take2.2.1, take2.2.2.1, take2.2.2.2))) x
  else
   (xZh N eat.2.1 eat.2.2.1 eat.2.2.2).bind fun vnext2 =>
   bif (vnext2.1.Kind == 3) then
    gd (i64b (vnext2.2.2.1 + 1)) (
    some (Sum.inr ([(xZ1.mk 9 0 [] [] vnext2.1.Val)], vnext2.2.1, (vnext2.2.2.1 + 1), vnext2.2.2.2)))
   else
    (xZH N 1 vnext2.2.1 vnext2.2.2.1 vnext2.2.2.2).bind fun x => Sum.elim
    (fun take3 =>
     some (Sum.inl (take3.1, take3.2.1, take3.2.2.1, take3.2.2.2.1, take3.2.2.2.2)))
    (fun take4 =>
     (xZ8 N 4 [46] take4.2.1 take4.2.2.1 take4.2.2.2).bind fun eat2 =>
     bif eat2.1 then
      (xZH N 1 eat2.2.1 eat2.2.2.1 eat2.2.2.2).bind fun x => Sum.elim
      (fun take5 =>
       some (Sum.inl (take5.1, take5.2.1, take5.2.2.1, take5.2.2.2.1, take5.2.2.2.2)))
      (fun take6 =>
       some (Sum.inr ([(xZ1.mk 8 0 take4.1.Text take6.1.Text (xZ5.mk 0 0 0 []))], take6.2.1, take6.2.2.1, take6.2.2.2))) x
     else
      some (Sum.inr ([(xZ1.mk 7 0 [] take4.1.Text (xZ5.mk 0 0 0 []))], eat2.2.1, eat2.2.2.1, eat2.2.2.2))) x
def xZ2X (N : Nat) (next0 : (List xZ1) → (List xZ3) → Int → Int → Option ((Int × Int × List xZ3 × Int × Int) ⊕ (List xZ1 × List xZ3 × Int × Int))) (l : List xZ1) (y4 : List xZ3) (y5 : Int) (y6 : Int) : Option ((Int × Int × List xZ3 × Int × Int) ⊕ (List xZ1 × List xZ3 × Int × Int)) :=
  (xZ8 N 4 [43] y4 y5 y6).bind fun eat =>
  bif eat.1 then
   (xZ1e N eat.2.1 eat.2.2.1 eat.2.2.2).bind fun x => Sum.elim
   (fun unit3 =>
    some (Sum.inl (unit3.1, unit3.2.1, unit3.2.2.1, unit3.2.2.2.1, unit3.2.2.2.2)))
   (fun unit4 =>
    (xZ1V N (xZ1.mk 5 0 [] [] (xZ5.mk 0 0 0 [])) [l, unit4.1]).bind fun abov =>
    next0 abov unit4.2.1 unit4.2.2.1 unit4.2.2.2) x
  else
   (xZ8 N 4 [45] eat.2.1 eat.2.2.1 eat.2.2.2).bind fun eat2 =>
   bif eat2.1 then
    (xZ1e N eat2.2.1 eat2.2.2.1 eat2.2.2.2).bind fun x => Sum.elim
    (fun unit5 =>
     some (Sum.inl (unit5.1, unit5.2.1, unit5.2.2.1, unit5.2.2.2.1, unit5.2.2.2.2)))
    (fun unit6 =>
     (xZ1V N (xZ1.mk 6 0 [] [] (xZ5.mk 0 0 0 [])) [l, unit6.1]).bind fun abov2 =>
     next0 abov2 unit6.2.1 unit6.2.2.1 unit6.2.2.2) x
   else
    some (Sum.inr (l, eat2.2.1, eat2.2.2.1, eat2.2.2.2))
def xZ2e (N : Nat) (y : List xZ3) (y2 : Int) (y3 : Int) : Option ((Int × Int × List xZ3 × Int × Int) ⊕ (List xZ1 × List xZ3 × Int × Int)) :=
  (xZ1e N y y2 y3).bind fun x => Sum.elim
  (fun unit =>
   some (Sum.inl (unit.1, unit.2.1, unit.2.2.1, unit.2.2.2.1, unit.2.2.2.2)))
  (fun unit2 =>
   lp4 (xZ2X N) N unit2.1 unit2.2.1 unit2.2.2.1 unit2.2.2.2) x
def xZ38 (N : Nat) (op : Int) : Option (List UInt8) :=
  bif (op == 1) then
   some [61]
  else
   bif (op == 2) then
    some [33, 61]
   else
    bif (op == 3) then
     some [60]
    else
     bif (op == 4) then
      some [60, 61]
     else
      bif (op == 5) then
       some [62]
      else
       bif (op == 6) then
        some [62, 61]
       else
        some []
def xZ9u (N : Nat) (sign : List UInt8) (next0 : Int → Option Int) (op : Int) : Option Int :=
  bif (leB op 6) then
   (xZ38 N op).bind fun sign2 =>
   bif (sign2 == sign) then
    some op
   else
    next0 (IntKind.u8.wrap (op + 1))
  else
   some 0
def xZc6 (N : Nat) (sign : List UInt8) : Option Int :=
  lp1 (xZ9u N sign) N 1
abbrev xZl : Type := (Int → (List xZ3) → Int → Int → Option ((Int × Int × List xZ3 × Int × Int) ⊕ (List xZ1 × List xZ3 × Int × Int))) × (Int → (List xZ3) → Int → Int → Option ((Int × Int × List xZ3 × Int × Int) ⊕ (List xZ1 × List xZ3 × Int × Int))) × (Int → (List xZ3) → Int → Int → Option ((Int × Int × List xZ3 × Int × Int) ⊕ (List xZ1 × List xZ3 × Int × Int)))
def xZ3r (N : Nat) (p : xZl) (deep : Int) (next0 : (List xZ1) → (List xZ3) → Int → Int → Option ((Int × Int × List xZ3 × Int × Int) ⊕ (List xZ1 × List xZ3 × Int × Int))) (l : List xZ1) (y4 : List xZ3) (y5 : Int) (y6 : Int) : Option ((Int × Int × List xZ3 × Int × Int) ⊕ (List xZ1 × List xZ3 × Int × Int)) :=
  (xZ8 N 2 [111, 114] y4 y5 y6).bind fun eat =>
  bif eat.1 then
   (p.2.1 deep eat.2.1 eat.2.2.1 eat.2.2.2).bind fun x => Sum.elim
   (fun and3 =>
    some (Sum.inl (and3.1, and3.2.1, and3.2.2.1, and3.2.2.2.1, and3.2.2.2.2)))
   (fun and4 =>
    (xZ1V N (xZ1.mk 2 0 [] [] (xZ5.mk 0 0 0 [])) [l, and4.1]).bind fun abov =>
    next0 abov and4.2.1 and4.2.2.1 and4.2.2.2) x
  else
   some (Sum.inr (l, eat.2.1, eat.2.2.1, eat.2.2.2))
def xZ7h (N : Nat) (p : xZl) (deep : Int) (y : List xZ3) (y2 : Int) (y3 : Int) : Option ((Int × Int × List xZ3 × Int × Int) ⊕ (List xZ1 × List xZ3 × Int × Int)) :=
  (p.2.1 deep y y2 y3).bind fun x => Sum.elim
  (fun and =>
   some (Sum.inl (and.1, and.2.1, and.2.2.1, and.2.2.2.1, and.2.2.2.2)))
  (fun and2 =>
   lp4 (xZ3r N p deep) N and2.1 and2.2.1 and2.2.2.1 and2.2.2.2) x
def xZ32 (N : Nat) (p : xZl) (deep : Int) (next0 : (List xZ1) → (List xZ3) → Int → Int → Option ((Int × Int × List xZ3 × Int × Int) ⊕ (List xZ1 × List xZ3 × Int × Int))) (l : List xZ1) (y4 : List xZ3) (y5 : Int) (y6 : Int) : Option ((Int × Int × List xZ3 × Int × Int) ⊕ (List xZ1 × List xZ3 × Int × Int)) :=
  (xZ8 N 2 [97, 110, 100] y4 y5 y6).bind fun eat =>
  bif eat.1 then
   (p.2.2 deep eat.2.1 eat.2.2.1 eat.2.2.2).bind fun x => Sum.elim
   (fun part3 =>
    some (Sum.inl (part3.1, part3.2.1, part3.2.2.1, part3.2.2.2.1, part3.2.2.2.2)))
   (fun part4 =>
    (xZ1V N (xZ1.mk 1 0 [] [] (xZ5.mk 0 0 0 [])) [l, part4.1]).bind fun abov =>
    next0 abov part4.2.1 part4.2.2.1 part4.2.2.2) x
  else
   some (Sum.inr (l, eat.2.1, eat.2.2.1, eat.2.2.2))
def xZ6Y (N : Nat) (p : xZl) (deep : Int) (y : List xZ3) (y2 : Int) (y3 : Int) : Option ((Int × Int × List xZ3 × Int × Int) ⊕ (List xZ1 × List xZ3 × Int × Int)) :=
  (p.2.2 deep y y2 y3).bind fun x => Sum.elim
  (fun part =>
   some (Sum.inl (part.1, part.2.1, part.2.2.1, part.2.2.2.1, part.2.2.2.2)))
  (fun part2 =>
   lp4 (xZ32 N p deep) N part2.1 part2.2.1 part2.2.2.1 part2.2.2.2) x
def xZ5T (N : Nat) (p : xZl) (deep : Int) (y : List xZ3) (y2 : Int) (y3 : Int) : Option ((Int × Int × List xZ3 × Int × Int) ⊕ (List xZ1 × List xZ3 × Int × Int)) :=
  (xZ2S N deep y y2 y3).bind fun x => Sum.elim
  (fun deep2 =>
   some (Sum.inl (deep2.1, deep2.2.1, deep2.2.2.1, deep2.2.2.2.1, deep2.2.2.2.2)))
  (fun deep3 =>
   (xZ8 N 2 [110, 111, 116] deep3.1 deep3.2.1 deep3.2.2).bind fun eat =>
   bif eat.1 then
    gd (i64b (deep + 1)) (
    (p.2.2 (deep + 1) eat.2.1 eat.2.2.1 eat.2.2.2).bind fun x => Sum.elim
    (fun part =>
     some (Sum.inl (part.1, part.2.1, part.2.2.1, part.2.2.2.1, part.2.2.2.2)))
    (fun part2 =>
     (xZ1V N (xZ1.mk 3 0 [] [] (xZ5.mk 0 0 0 [])) [part2.1]).bind fun abov =>
     some (Sum.inr (abov, part2.2.1, part2.2.2.1, part2.2.2.2))) x)
   else
    (xZ8 N 4 [40] eat.2.1 eat.2.2.1 eat.2.2.2).bind fun eat2 =>
    bif eat2.1 then
     gd (i64b (deep + 1)) (
     (p.1 (deep + 1) eat2.2.1 eat2.2.2.1 eat2.2.2.2).bind fun x => Sum.elim
     (fun or =>
      some (Sum.inl (or.1, or.2.1, or.2.2.1, or.2.2.2.1, or.2.2.2.2)))
     (fun or2 =>
      (xZ8 N 4 [41] or2.2.1 or2.2.2.1 or2.2.2.2).bind fun eat3 =>
      bif (!eat3.1) then
       (xZc N 4 eat3.2.1 eat3.2.2.1 eat3.2.2.2).bind fun fail =>
       some (Sum.inl (fail.1, fail.2.1, fail.2.2.1, fail.2.2.2.1, fail.2.2.2.2))
      else
       some (Sum.inr (or2.1, eat3.2.1, eat3.2.2.1, eat3.2.2.2))) x)
    else
     (xZ2e N eat2.2.1 eat2.2.2.1 eat2.2.2.2).bind fun x => Sum.elim
     (fun sum =>
      some (Sum.inl (sum.1, sum.2.1, sum.2.2.1, sum.2.2.2.1, sum.2.2.2.2)))
     (fun sum2 =>
      (xZh N sum2.2.1 sum2.2.2.1 sum2.2.2.2).bind fun vnext =>
      (xZc6 N vnext.1.Text).bind fun op =>
      bif (op == 0) then
       (xZc N 4 vnext.2.1 vnext.2.2.1 vnext.2.2.2).bind fun fail2 =>
       some (Sum.inl (fail2.1, fail2.2.1, fail2.2.2.1, fail2.2.2.2.1, fail2.2.2.2.2))
      else
       (xZH N 4 vnext.2.1 vnext.2.2.1 vnext.2.2.2).bind fun x => Sum.elim
       (fun take =>
        some (Sum.inl (take.1, take.2.1, take.2.2.1, take.2.2.2.1, take.2.2.2.2)))
       (fun take2 =>
        (xZ2e N take2.2.1 take2.2.2.1 take2.2.2.2).bind fun x => Sum.elim
        (fun sum3 =>
         some (Sum.inl (sum3.1, sum3.2.1, sum3.2.2.1, sum3.2.2.2.1, sum3.2.2.2.2)))
        (fun sum4 =>
         (xZ1V N (xZ1.mk 4 op [] [] (xZ5.mk 0 0 0 [])) [sum2.1, sum4.1]).bind fun abov2 =>
         some (Sum.inr (abov2, sum4.2.1, sum4.2.2.1, sum4.2.2.2))) x) x) x) x
def xZP (N : Nat) : xZl := Nat.rec (motive := fun _ => xZl) ((fun _ _ _ _ => none), (fun _ _ _ _ => none), (fun _ _ _ _ => none)) (fun N p => ((xZ7h N p), (xZ6Y N p), (xZ5T N p))) N
def xZD (N : Nat) (deep : Int) (y : List xZ3) (y2 : Int) (y3 : Int) : Option ((Int × Int × List xZ3 × Int × Int) ⊕ (List xZ1 × List xZ3 × Int × Int)) := (xZP N).1 deep y y2 y3
def xZ6L (N : Nat) (deep : Int) (y : List xZ3) (y2 : Int) (y3 : Int) : Option ((Int × Int × List xZ3 × Int × Int) ⊕ (List xZ1 × List xZ3 × Int × Int)) := (xZP N).2.1 deep y y2 y3
def xZ62 (N : Nat) (deep : Int) (y : List xZ3) (y2 : Int) (y3 : Int) : Option ((Int × Int × List xZ3 × Int × Int) ⊕ (List xZ1 × List xZ3 × Int × Int)) := (xZP N).2.2 deep y y2 y3
def xZ37 (N : Nat) (n : xZ1) (vwhere : Int) : Option Bool :=
  bif (vwhere == 0) then
   bif (leB 1 n.Kind) then
    some (leB n.Kind 4)
   else
    some false
  else
   bif (vwhere == 1) then
    bif (leB 5 n.Kind) then
     some (leB n.Kind 9)
    else
     some false
   else
    bif (leB 7 n.Kind) then
     some (leB n.Kind 9)
    else
     some false
def xZ2i (N : Nat) (c : Int) : Option Bool :=
  bif (leB 97 c) then
   some (leB c 122)
  else
   some false
def xZ27 (N : Nat) (s : List UInt8) : Option Bool :=
  bif (s == [119, 105, 116, 104, 105, 110]) then
   bif (s == [119, 105, 116, 104, 105, 110]) then
    some true
   else
    some false
  else
   bif (s == [98, 121]) then
    bif (s == [98, 121]) then
     some true
    else
     some false
   else
    bif (s == [97, 110, 100]) then
     bif (s == [97, 110, 100]) then
      some true
     else
      some false
    else
     bif (s == [111, 114]) then
      bif (s == [111, 114]) then
       some true
      else
       some false
     else
      bif (s == [110, 111, 116]) then
       bif (s == [110, 111, 116]) then
        some true
       else
        some false
      else
       bif (s == [97, 110, 121]) then
        bif (s == [97, 110, 121]) then
         some true
        else
         some false
       else
        bif (s == [110, 101, 120, 116]) then
         bif (s == [110, 101, 120, 116]) then
          some true
         else
          some false
        else
         bif (s == [115, 116, 114, 105, 99, 116]) then
          bif (s == [115, 116, 114, 105, 99, 116]) then
           some true
          else
           some false
         else
          bif (s == [116, 114, 117, 101]) then
           bif (s == [116, 114, 117, 101]) then
            some true
           else
            some false
          else
           bif (s == [102, 97, 108, 115, 101]) then
            some true
           else
            some false
def xZ40 (N : Nat) (c : Int) : Option Bool :=
  (xZ2i N c).bind fun lett =>
  bif lett then
   some true
  else
   bif (leB 48 c) then
    bif (leB c 57) then
     some true
    else
     some (c == 95)
   else
    some (c == 95)
def xZ2P (N : Nat) (s : List UInt8) (next0 : Int → Option Bool) (i : Int) : Option Bool :=
  bif (ltB i (List.length s : Int)) then
   (ix s i).bind fun c2 =>
   (xZ40 N (UInt8.toNat c2 : Int)).bind fun tail =>
   bif (!tail) then
    some false
   else
    gd (i64b (i + 1)) (
    next0 (i + 1))
  else
   some true
def xZS (N : Nat) (s : List UInt8) : Option Bool :=
  bif (s == []) then
   some false
  else
   bif (ltB 12 (List.length s : Int)) then
    some false
   else
    (ix s 0).bind fun c =>
    (xZ2i N (UInt8.toNat c : Int)).bind fun lett =>
    bif (!lett) then
     some false
    else
     (xZ27 N s).bind fun rese =>
     bif rese then
      some false
     else
      lp1 (xZ2P N s) N 1
def xZ9i (N : Nat) (v : xZ5) : Option (Int ⊕ Int ⊕ Int ⊕ (List UInt8) ⊕ Unit) :=
  bif (v.Kind == 1) then
   some (Sum.inl v.N)
  else
   bif (v.Kind == 2) then
    some (Sum.inr (Sum.inl v.N))
   else
    bif (v.Kind == 3) then
     some (Sum.inr (Sum.inr (Sum.inl v.Bits)))
    else
     bif (v.Kind == 4) then
      some (Sum.inr (Sum.inr (Sum.inr (Sum.inl v.Text))))
     else
      some (Sum.inr (Sum.inr (Sum.inr (Sum.inr ()))))
def xZ3R (N : Nat) (n : Int) : Option xZ5 :=
  some (xZ5.mk 1 n 0 [])
def xZ3e (N : Nat) (n : Int) : Option xZ5 :=
  some (xZ5.mk 2 n 0 [])
def xZd1 (N : Nat) (u : Int) : Option Nat :=
  some (Int.toNat u)
def xZ83 (N : Nat) (u : Int) : Option Int :=
  (xZd1 N u).bind fun of =>
  bif (fcmpB .neq .f64 of of) then
   some 9221120237041090560
  else
   some u
def xZ3N (N : Nat) (u : Int) : Option xZ5 :=
  some (xZ5.mk 3 0 u [])
def xZ4q (N : Nat) (s : List UInt8) : Option xZ5 :=
  some (xZ5.mk 4 0 0 s)
def xZ6t (N : Nat) (v : xZ5) : Option Int :=
  (xZ9i N v).bind fun x => Sum.elim
  (fun core =>
   bif (ltB core (-4611686018427387904)) then
    some 8
   else
    bif (ltB 4611686018427387904 core) then
     some 8
    else
     (xZ3R N core).bind fun whol =>
     bif (!((whol.Kind == v.Kind) && ((whol.N == v.N) && ((whol.Bits == v.Bits) && (whol.Text == v.Text))))) then
      some 2
     else
      some 0)
  (Sum.elim
  (fun core2 =>
   bif (core2 != 0) then
    bif (core2 != 1) then
     some 8
    else
     (xZ3e N core2).bind fun whol2 =>
     bif (!((whol2.Kind == v.Kind) && ((whol2.N == v.N) && ((whol2.Bits == v.Bits) && (whol2.Text == v.Text))))) then
      some 2
     else
      some 0
   else
    (xZ3e N core2).bind fun whol3 =>
    bif (!((whol3.Kind == v.Kind) && ((whol3.N == v.N) && ((whol3.Bits == v.Bits) && (whol3.Text == v.Text))))) then
     some 2
    else
     some 0)
  (Sum.elim
  (fun core3 =>
   (xZ83 N core3).bind fun clea =>
   bif (clea != core3) then
    some 4
   else
    (xZ3N N core3).bind fun whol4 =>
    bif (!((whol4.Kind == v.Kind) && ((whol4.N == v.N) && ((whol4.Bits == v.Bits) && (whol4.Text == v.Text))))) then
     some 2
    else
     some 0)
  (Sum.elim
  (fun core4 =>
   bif (ltB 24 (List.length core4 : Int)) then
    some 5
   else
    (xZ4q N core4).bind fun whol5 =>
    bif (!((whol5.Kind == v.Kind) && ((whol5.N == v.N) && ((whol5.Bits == v.Bits) && (whol5.Text == v.Text))))) then
     some 2
    else
     some 0)
  (fun core5 =>
   some 11)))) x
def xZ3I (N : Nat) (n : xZ1) : Option Bool :=
  bif (n.Kind == 4) then
   (xZ38 N n.Op).bind fun sign =>
   some (sign == [])
  else
   bif (n.Kind == 7) then
    (xZS N n.Name).bind fun name =>
    some (!name)
   else
    bif (n.Kind == 8) then
     (xZS N n.Name).bind fun name2 =>
     bif (!name2) then
      some true
     else
      (xZS N n.Var).bind fun name3 =>
      some (!name3)
    else
     bif (n.Kind == 9) then
      (xZ6t N n.Val).bind fun chec =>
      some (chec != 0)
     else
      some false
def xZ7Q (N : Nat) (n : xZ1) (e : Int) : Option Int :=
  (xZ3I N n).bind fun lack =>
  bif lack then
   some e
  else
   some 0
def xZ7X (N : Nat) (n : xZ1) (e : Int) : Option Int :=
  (xZ5u N n).bind fun more =>
  bif more then
   some e
  else
   some 0
def xZ8G (N : Nat) (kind : Int) : Option Int :=
  bif (kind == 1) then
   bif (kind == 1) then
    some 2
   else
    bif (kind == 3) then
     some 1
    else
     some 0
  else
   bif (kind == 2) then
    bif (kind == 2) then
     some 2
    else
     bif (kind == 3) then
      some 1
     else
      some 0
   else
    bif (kind == 4) then
     bif (kind == 4) then
      some 2
     else
      bif (kind == 3) then
       some 1
      else
       some 0
    else
     bif (kind == 5) then
      bif (kind == 5) then
       some 2
      else
       bif (kind == 3) then
        some 1
       else
        some 0
     else
      bif (kind == 6) then
       some 2
      else
       bif (kind == 3) then
        some 1
       else
        some 0
def xZ4O (N : Nat) (n : xZ1) (which : Int) : Option Int :=
  bif (leB n.Kind 3) then
   some 0
  else
   bif (n.Kind == 4) then
    bif (n.Kind == 4) then
     some 1
    else
     some 2
   else
    bif (which == 0) then
     some 1
    else
     some 2
abbrev xZ1A : Type := (Int → Int → (List xZ1) → Int → Option (Int × List xZ1 × Int))
def xZ1w (N : Nat) (p : xZ1A) (deep : Int) (kids : Int) (y5 : Int) (y6 : Int) (y7 : List UInt8) (y8 : List UInt8) (y9 : Int) (y10 : Int) (y11 : Int) (y12 : List UInt8) (next0 : Int → (List xZ1) → Int → Option (Int × List xZ1 × Int)) (x : Int) (y3 : List xZ1) (y4 : Int) : Option (Int × List xZ1 × Int) :=
  bif (ltB x kids) then
   (xZ4O N (xZ1.mk y5 y6 y7 y8 (xZ5.mk y9 y10 y11 y12)) x).bind fun kid =>
   gd (i64b (deep + 1)) (
   (p kid (deep + 1) y3 y4).bind fun tree =>
   bif (tree.1 != 0) then
    some (tree.1, tree.2.1, tree.2.2)
   else
    gd (i64b (x + 1)) (
    next0 (x + 1) tree.2.1 tree.2.2))
  else
   some (0, y3, y4)
def xZ2J (N : Nat) (p : xZ1A) (vwhere : Int) (deep : Int) (y : List xZ1) (y2 : Int) : Option (Int × List xZ1 × Int) :=
  bif (leB (List.length y : Int) y2) then
   some (3, y, y2)
  else
   (ix y y2).bind fun e =>
   bif (leB 16 deep) then
    some (15, y, y2)
   else
    (xZ37 N e vwhere).bind fun stan =>
    bif (!stan) then
     some (11, y, y2)
    else
     (xZ7Q N e 4).bind fun is =>
     bif (is != 0) then
      some (is, y, y2)
     else
      (xZ7X N e 2).bind fun is2 =>
      bif (is2 != 0) then
       some (is2, y, y2)
      else
       gd (i64b (y2 + 1)) (
       (xZ8G N e.Kind).bind fun kids =>
       lp3 (xZ1w N p deep kids e.Kind e.Op e.Var e.Name e.Val.Kind e.Val.N e.Val.Bits e.Val.Text) N 0 y (y2 + 1))
def xZB (N : Nat) : xZ1A := Nat.rec (motive := fun _ => xZ1A) (fun _ _ _ _ => none) (fun N p => (xZ2J N p)) N
def xZ4p (N : Nat) (vwhere : Int) (deep : Int) (y : List xZ1) (y2 : Int) : Option (Int × List xZ1 × Int) := (xZB N) vwhere deep y y2
def xZ36 (N : Nat) (l : List xZ1) : Option Int :=
  bif (ltB 30 (List.length l : Int)) then
   some 5
  else
   bif ((List.length l : Int) == 0) then
    some 0
   else
    (xZ4p N 0 0 l 0).bind fun tree =>
    bif (tree.1 != 0) then
     some tree.1
    else
     bif (ltB tree.2.2 (List.length l : Int)) then
      some 5
     else
      some 0
def xZ5E (N : Nat) (l : List xZ3) (at_ e : Int) : Option ((List xZ1 × Int) ⊕ (List xZ1 × Int × Int × Int)) :=
  bif ltB at_ 0 then some (.inr ([], 0, 2, 0))
  else bif ltB (l.length : Int) at_ then some (.inr ([], 0, 2, 0))
  else (xZf N l at_ e).bind fun x =>
    (xZD N 0 x.2.1 x.2.2.1 x.2.2.2).bind fun y => Sum.elim
      (fun p => gd (p.1 != 0) (some (.inr ([], 0, p.1, p.2.1))))
      (fun r => (xZ36 N r.1).bind fun c => bif c != 0 then some (.inr ([], 0, c, x.1)) else some (.inl (r.1, r.2.2.1))) y
def xZ2a (N : Nat) : Option Bool := some true
def xZ5n (N : Nat) (l : List xZ2) (i : Int) (next0 : Int → Option Int) (next2 : Int → Option Int) (k : Int) : Option Int :=
  (ix l i).bind fun e3 =>
  bif (ltB k (List.length e3.Fields : Int)) then
   (ix l i).bind fun e4 =>
   (ix e4.Fields k).bind fun e5 =>
   bif (ltB 40 (List.length e5.Name : Int)) then
    some 1
   else
    gd (i64b (k + 1)) (
    next2 (k + 1))
  else
   gd (i64b (i + 1)) (
   next0 (i + 1))
def xZ5j (N : Nat) (l : List xZ2) (next0 : Int → Option Int) (i : Int) : Option Int :=
  bif (ltB i (List.length l : Int)) then
   (ix l i).bind fun e =>
   bif (ltB 40 (List.length e.Name : Int)) then
    some 1
   else
    (ix l i).bind fun e2 =>
    bif (ltB 12 (List.length e2.Fields : Int)) then
     some 1
    else
     lp1 (xZ5n N l i next0) N 0
  else
   some 0
def xZ7W (N : Nat) (l : List xZ2) : Option Int :=
  bif (ltB 12 (List.length l : Int)) then
   some 1
  else
   lp1 (xZ5j N l) N 0
def xZ6a (N : Nat) (l : List xZ1) (next0 : Int → (List xZ1) → Option (List xZ1)) (i : Int) (ys : List xZ1) : Option (List xZ1) :=
  bif (ltB i (List.length l : Int)) then
   (ix l i).bind fun e =>
   gd (Nat.ble ((List.length ys + 1) * 80) 140737488355328) (
   gd (i64b (i + 1)) (
   next0 (i + 1) (ys ++ [e])))
  else
   some ys
def xZ8L (N : Nat) (l : List xZ1) : Option (List xZ1) :=
  lp2 (xZ6a N l) N 0 []
def xZ6p (N : Nat) (y : List xZ0) (y5 : Int) (y6 : List UInt8) (y7 : Int) (next0 : Int → (List xZ0) → Option xZ6) (i : Int) (ys : List xZ0) : Option xZ6 :=
  bif (ltB i (List.length y : Int)) then
   (ix y i).bind fun e =>
   (xZ8L N e.Test).bind fun own =>
   gd (Nat.ble ((List.length ys + 1) * 88) 140737488355328) (
   gd (i64b (i + 1)) (
   next0 (i + 1) (ys ++ [(xZ0.mk e.Kind e.Kids e.Lo e.Hi e.Var e.Type_ own)])))
  else
   some (xZ6.mk ys y5 y6 y7)
def xZ8O (N : Nat) (p : xZ6) : Option xZ6 :=
  lp2 (xZ6p N p.Body p.Within p.By p.Mode) N 0 []
def xZ6k (N : Nat) (l : List xZ2) (i : Int) (y : List UInt8) (next0 : Int → (List xZ2) → Option (List xZ2)) (next2 : Int → (List xZ2) → (List xZ7) → Option (List xZ2)) (k : Int) (ys2 : List xZ2) (ys3 : List xZ7) : Option (List xZ2) :=
  (ix l i).bind fun e2 =>
  bif (ltB k (List.length e2.Fields : Int)) then
   (ix l i).bind fun e3 =>
   (ix e3.Fields k).bind fun e4 =>
   gd (Nat.ble ((List.length ys3 + 1) * 24) 140737488355328) (
   gd (i64b (k + 1)) (
   next2 (k + 1) ys2 (ys3 ++ [e4])))
  else
   gd (Nat.ble ((List.length ys2 + 1) * 40) 140737488355328) (
   gd (i64b (i + 1)) (
   next0 (i + 1) (ys2 ++ [(xZ2.mk y ys3)])))
def xZ6o (N : Nat) (l : List xZ2) (next0 : Int → (List xZ2) → Option (List xZ2)) (i : Int) (ys : List xZ2) : Option (List xZ2) :=
  bif (ltB i (List.length l : Int)) then
   (ix l i).bind fun e =>
   lp3 (xZ6k N l i e.Name next0) N 0 ys []
  else
   some ys
def xZa4 (N : Nat) (l : List xZ2) : Option (List xZ2) :=
  lp2 (xZ6o N l) N 0 []
def xZ26 (N : Nat) (n : xZ0) : Option Bool :=
  bif (n.Kind == 1) then
   some true
  else
   some (n.Kind == 2)
def xZ2R (N : Nat) (n : xZ0) (above : Int) : Option Bool :=
  bif (ltB n.Kind 1) then
   some false
  else
   bif (ltB 5 n.Kind) then
    some false
   else
    (xZ26 N n).bind fun list =>
    bif list then
     some (n.Kind != above)
    else
     bif (n.Kind != 5) then
      some true
     else
      some (above != 3)
def xZ3c (N : Nat) (n : xZ0) : Option Bool :=
  bif (ltB n.Lo 0) then
   some false
  else
   bif (ltB 8 n.Lo) then
    some false
   else
    bif (ltB n.Hi 0) then
     some false
    else
     bif (ltB 8 n.Hi) then
      some false
     else
      bif (n.Lo == 1) then
       bif (n.Hi == 1) then
        some false
       else
        bif (n.Hi == 0) then
         some true
        else
         some (leB n.Lo n.Hi)
      else
       bif (n.Hi == 0) then
        some true
       else
        some (leB n.Lo n.Hi)
def xZ3a (N : Nat) (n : xZ0) : Option Bool :=
  (xZ26 N n).bind fun list =>
  bif list then
   bif (ltB n.Kids 2) then
    some true
   else
    some (ltB 40 n.Kids)
  else
   bif (n.Kind == 3) then
    bif (n.Kids != 1) then
     some true
    else
     (xZ3c N n).bind fun ofte =>
     some (!ofte)
   else
    (xZS N n.Var).bind fun name =>
    bif (!name) then
     some true
    else
     (xZS N n.Type_).bind fun name2 =>
     bif (!name2) then
      some true
     else
      (xZ36 N n.Test).bind fun chec =>
      some (chec != 0)
def xZQ (N : Nat) (n : xZ0) : Option Bool :=
  bif (n.Kind == 4) then
   some true
  else
   some (n.Kind == 5)
def xZ3J (N : Nat) (n : xZ0) : Option Bool :=
  bif (n.Lo != 0) then
   bif (!(n.Var == [])) then
    (xZQ N n).bind fun leaf =>
    bif leaf then
     some true
    else
     some true
   else
    bif (!(n.Type_ == [])) then
     (xZQ N n).bind fun leaf2 =>
     bif leaf2 then
      some true
     else
      some true
    else
     (xZQ N n).bind fun leaf3 =>
     bif leaf3 then
      some true
     else
      bif (ltB 0 (List.length n.Test : Int)) then
       some true
      else
       some (n.Kind != 3)
  else
   bif (!(n.Var == [])) then
    (xZQ N n).bind fun leaf4 =>
    bif leaf4 then
     bif (n.Hi != 0) then
      some true
     else
      some (n.Kids != 0)
    else
     some true
   else
    bif (!(n.Type_ == [])) then
     (xZQ N n).bind fun leaf5 =>
     bif leaf5 then
      bif (n.Hi != 0) then
       some true
      else
       some (n.Kids != 0)
     else
      some true
    else
     (xZQ N n).bind fun leaf6 =>
     bif leaf6 then
      bif (n.Hi != 0) then
       some true
      else
       some (n.Kids != 0)
     else
      bif (ltB 0 (List.length n.Test : Int)) then
       some true
      else
       bif (n.Hi != 0) then
        some (n.Kind != 3)
       else
        some false
def xZ2M (N : Nat) (n : xZ0) : Option Int :=
  (xZ26 N n).bind fun list =>
  bif list then
   some (max 0 (min n.Kids 40))
  else
   bif (n.Kind == 3) then
    some 1
   else
    some 0
abbrev xZ6b : Type := ((List xZ0) → Int → Int → Option (List xZ0 × Int))
def xZ7Z (N : Nat) (p : xZ6b) (deep : Int) (kids : Int) (y : Int) (next1 : (List xZ0) → Int → Option (List xZ0 × Int)) (rest : List xZ0) (x : Int) : Option (List xZ0 × Int) :=
  bif (ltB x kids) then
   gd (i64b (deep + 1)) (
   (p rest y (deep + 1)).bind fun tree =>
   bif (tree.2 != 0) then
    some ([], tree.2)
   else
    gd (i64b (x + 1)) (
    next1 tree.1 (x + 1)))
  else
   some (rest, 0)
def xZ9n (N : Nat) (p : xZ6b) (l : List xZ0) (above : Int) (deep : Int) : Option (List xZ0 × Int) :=
  bif ((List.length l : Int) == 0) then
   some ([], 3)
  else
   bif (leB 16 deep) then
    some ([], 15)
   else
    (ix l 0).bind fun e =>
    (xZ2R N e above).bind fun stan =>
    bif (!stan) then
     some ([], 11)
    else
     (ix l 0).bind fun e2 =>
     (xZ3a N e2).bind fun lack =>
     bif lack then
      some ([], 4)
     else
      (ix l 0).bind fun e3 =>
      (xZ3J N e3).bind fun more =>
      bif more then
       some ([], 2)
      else
       (ix l 0).bind fun e4 =>
       gd (leB 1 (List.length l : Int)) (
       (xZ2M N e4).bind fun kids =>
       lp2 (xZ7Z N p deep kids e4.Kind) N (List.drop 1 l) 0)
def xZ6d (N : Nat) : xZ6b := Nat.rec (motive := fun _ => xZ6b) (fun _ _ _ => none) (fun N p => (xZ9n N p)) N
def xZ99 (N : Nat) (l : List xZ0) (above : Int) (deep : Int) : Option (List xZ0 × Int) := (xZ6d N) l above deep
def xZ5L (N : Nat) (mode : Int) : Option (List UInt8) :=
  bif (mode == 1) then
   some [97, 110, 121]
  else
   bif (mode == 2) then
    some [110, 101, 120, 116]
   else
    bif (mode == 3) then
     some [115, 116, 114, 105, 99, 116]
    else
     some []
def xZ4W (N : Nat) (p : xZ6) : Option Int :=
  bif (ltB 40 (List.length p.Body : Int)) then
   some 5
  else
   (xZ99 N p.Body 0 0).bind fun tree =>
   bif (tree.2 != 0) then
    some tree.2
   else
    bif (ltB 0 (List.length tree.1 : Int)) then
     some 5
    else
     bif (ltB p.Within 1) then
      some 8
     else
      bif (ltB 1073741824 p.Within) then
       some 8
      else
       bif (!(p.By == [])) then
        (xZS N p.By).bind fun name =>
        bif (!name) then
         some 4
        else
         (xZ5L N p.Mode).bind fun word =>
         bif (word == []) then
          some 11
         else
          some 0
       else
        (xZ5L N p.Mode).bind fun word2 =>
        bif (word2 == []) then
         some 11
        else
         some 0
def xZ2v (N : Nat) (name : List UInt8) (x : List xZ7) (x2 : Int) (next0 : Int → Option (Int × Int)) (x3 : Int) : Option (Int × Int) :=
  bif (ltB x3 x2) then
   (ix x x3).bind fun e =>
   bif (e.Name == name) then
    some (x3, e.Kind)
   else
    gd (i64b (x3 + 1)) (
    next0 (x3 + 1))
  else
   some ((-1), 0)
def xZZ (N : Nat) (t : xZ2) (name : List UInt8) : Option (Int × Int) :=
  lp1 (xZ2v N name t.Fields (List.length t.Fields : Int)) N 0
def xZ5w (N : Nat) (kind : Int) : Option (List UInt8) :=
  bif (kind == 1) then
   some [105, 110, 116]
  else
   bif (kind == 2) then
    some [102, 108, 97, 103]
   else
    bif (kind == 3) then
     some [114, 101, 97, 108]
    else
     bif (kind == 4) then
      some [116, 101, 120, 116]
     else
      some []
def xZ2s (N : Nat) (x : List xZ7) (x2 : Int) (y : List UInt8) (y2 : List xZ7) (next0 : Int → Option Int) (x3 : Int) : Option Int :=
  bif (ltB x3 x2) then
   (ix x x3).bind fun e =>
   (xZZ N (xZ2.mk y y2) e.Name).bind fun fiel =>
   (xZS N e.Name).bind fun name2 =>
   bif (!name2) then
    some 4
   else
    (xZ5w N e.Kind).bind fun word =>
    bif (word == []) then
     some 11
    else
     bif (fiel.1 != x3) then
      some 21
     else
      gd (i64b (x3 + 1)) (
      next0 (x3 + 1))
  else
   some 0
def xZ2T (N : Nat) (t : xZ2) : Option Int :=
  (xZS N t.Name).bind fun name =>
  bif (!name) then
   some 4
  else
   bif (ltB 6 (List.length t.Fields : Int)) then
    some 5
   else
    lp1 (xZ2s N t.Fields (List.length t.Fields : Int) t.Name t.Fields) N 0
def xZ4V (N : Nat) (name : List UInt8) (l : List xZ2) (x : Int) (next0 : Int → Option (xZ2 × Bool)) (x2 : Int) : Option (xZ2 × Bool) :=
  bif (ltB x2 x) then
   (ix l x2).bind fun e =>
   bif (e.Name == name) then
    (xZ5W N e.Fields).bind fun clon =>
    some ((xZ2.mk name clon), true)
   else
    gd (i64b (x2 + 1)) (
    next0 (x2 + 1))
  else
   some ((xZ2.mk [] []), false)
def xZ69 (N : Nat) (l : List xZ2) (name : List UInt8) : Option (xZ2 × Bool) :=
  lp1 (xZ4V N name l (List.length l : Int)) N 0
def xZ4b (N : Nat) (l : List xZ2) (x : List xZ2) (x2 : Int) (next0 : Int → Option Int) (x3 : Int) : Option Int :=
  bif (ltB x3 x2) then
   (ix x x3).bind fun e =>
   (xZ2T N e).bind fun chec =>
   bif (chec != 0) then
    some chec
   else
    gd (leB 0 x3) (
    gd (leB x3 (List.length l : Int)) (
    (xZ69 N (List.take (Int.toNat x3) l) e.Name).bind fun find =>
    bif find.2 then
     some 21
    else
     gd (i64b (x3 + 1)) (
     next0 (x3 + 1))))
  else
   some 0
def xZ5q (N : Nat) (l : List xZ2) : Option Int :=
  bif (ltB 8 (List.length l : Int)) then
   some 5
  else
   lp1 (xZ4b N l l (List.length l : Int)) N 0
def xZJ (N : Nat) (n : xZ0) : Option Bool :=
  bif (n.Kind == 4) then
   some true
  else
   some (n.Kind == 5)
def xZ39 (N : Nat) (n : xZ0) (y : List UInt8) : Option (Bool × List UInt8) :=
  bif (n.Kind == 4) then
   some ((n.Var == y), y)
  else
   some (false, y)
def xZR (N : Nat) (s : List xZ0) (x : Int) (next0 : Int → (List UInt8) → Option (Int × List UInt8)) (x2 : Int) (y2 : List UInt8) : Option (Int × List UInt8) :=
  bif (ltB x2 x) then
   (ix s x2).bind fun e =>
   (xZ39 N e y2).bind fun l =>
   bif l.1 then
    some (x2, l.2)
   else
    gd (i64b (x2 + 1)) (
    next0 (x2 + 1) l.2)
  else
   some ((-1), y2)
def xZy (N : Nat) (s : List xZ0) (y : List UInt8) : Option (Int × List UInt8) :=
  lp2 (xZR N s (List.length s : Int)) N 0 y
def xZ8g (N : Nat) (l : List xZ0) (name : List UInt8) : Option Int :=
  (xZy N l name).bind fun node =>
  some node.1
def xZ4L (N : Nat) (n : xZ0) : Option Int :=
  bif (n.Kind == 3) then
   some 1
  else
   some n.Kids
def xZ4B (N : Nat) (b : A40 Bool) (next0 : Int → (A40 Bool) → Option (A40 Bool)) (x : Int) (y : A40 Bool) : Option (A40 Bool) :=
  bif (ltB x 40) then
   gd (leB 0 x) (
   gd (ltB x 40) (
   (ix (A40.l y) x).bind fun e =>
   bif e then
    gd (leB 0 x) (
    gd (ltB x 40) (
    (ix (A40.l b) x).bind fun e2 =>
    gd (leB 0 x) (
    gd (ltB x 40) (
    (ix (A40.l y) x).bind fun e3 =>
    gd (i64b (x + 1)) (
    next0 (x + 1) (A40.set y x e2))))))
   else
    gd (leB 0 x) (
    gd (ltB x 40) (
    (ix (A40.l y) x).bind fun e4 =>
    gd (i64b (x + 1)) (
    next0 (x + 1) (A40.set y x false))))))
  else
   some y
def xZ31 (N : Nat) (va : A40 Bool) (b : A40 Bool) : Option (A40 Bool) :=
  lp2 (xZ4B N b) N 0 va
abbrev xZ1Y : Type := (Int → (A40 Bool) → (List xZ0) → (A40 (A40 Bool)) → Option (A40 Bool × Int × List xZ0 × A40 (A40 Bool)))
def xZ1I (N : Nat) (p : xZ1Y) (kids : Int) (ahead : A40 Bool) (y6 : Int) (y8 : Int) (next0 : Int → Int → (List xZ0) → (A40 (A40 Bool)) → (A40 Bool) → Option (A40 Bool × Int × List xZ0 × A40 (A40 Bool))) (vnext : Int) (x : Int) (y3 : List xZ0) (y4 : A40 (A40 Bool)) (y13 : A40 Bool) : Option (A40 Bool × Int × List xZ0 × A40 (A40 Bool)) :=
  bif (ltB x kids) then
   bif (y6 == 1) then
    (p vnext y13 y3 y4).bind fun tree =>
    bif (y6 == 2) then
     bif (ltB 0 x) then
      (xZ31 N tree.1 y13).bind fun both =>
      gd (i64b (x + 1)) (
      next0 tree.2.1 (x + 1) tree.2.2.1 tree.2.2.2 both)
     else
      gd (i64b (x + 1)) (
      next0 tree.2.1 (x + 1) tree.2.2.1 tree.2.2.2 tree.1)
    else
     gd (i64b (x + 1)) (
     next0 tree.2.1 (x + 1) tree.2.2.1 tree.2.2.2 tree.1)
   else
    (p vnext ahead y3 y4).bind fun tree2 =>
    bif (y6 == 2) then
     bif (ltB 0 x) then
      (xZ31 N tree2.1 y13).bind fun both2 =>
      gd (i64b (x + 1)) (
      next0 tree2.2.1 (x + 1) tree2.2.2.1 tree2.2.2.2 both2)
     else
      gd (i64b (x + 1)) (
      next0 tree2.2.1 (x + 1) tree2.2.2.1 tree2.2.2.2 tree2.1)
    else
     gd (i64b (x + 1)) (
     next0 tree2.2.1 (x + 1) tree2.2.2.1 tree2.2.2.2 tree2.1)
  else
   bif (y6 == 3) then
    bif (y8 == 0) then
     some (ahead, vnext, y3, y4)
    else
     some (y13, vnext, y3, y4)
   else
    some (y13, vnext, y3, y4)
def xZE (N : Nat) (p : xZ1Y) (vat : Int) (ahead : A40 Bool) (y : List xZ0) (y2 : A40 (A40 Bool)) : Option (A40 Bool × Int × List xZ0 × A40 (A40 Bool)) :=
  (ix y vat).bind fun e =>
  (xZJ N e).bind fun leaf =>
  bif leaf then
   gd (leB 0 vat) (
   gd (ltB vat 40) (
   (ix (A40.l y2) vat).bind fun e2 =>
   bif (e.Kind == 4) then
    (xZ8g N y e.Var).bind fun id =>
    gd (leB 0 id) (
    gd (ltB id 40) (
    (ix (A40.l ahead) id).bind fun e3 =>
    gd (i64b (vat + 1)) (
    some ((A40.set ahead id true), (vat + 1), y, (A40.set y2 vat ahead)))))
   else
    gd (i64b (vat + 1)) (
    some (ahead, (vat + 1), y, (A40.set y2 vat ahead)))))
  else
   gd (i64b (vat + 1)) (
   (xZ4L N e).bind fun kids =>
   lp5 (xZ1I N p kids ahead e.Kind e.Lo) N (vat + 1) 0 y y2 ahead)
def xZx (N : Nat) : xZ1Y := Nat.rec (motive := fun _ => xZ1Y) (fun _ _ _ _ => none) (fun N p => (xZE N p)) N
def xZ4Y (N : Nat) (vat : Int) (ahead : A40 Bool) (y : List xZ0) (y2 : A40 (A40 Bool)) : Option (A40 Bool × Int × List xZ0 × A40 (A40 Bool)) := (xZx N) vat ahead y y2
def xZ7E (N : Nat) (l : List xZ0) : Option (List xZ0 × A40 (A40 Bool)) :=
  (xZ4Y N 0 (A40.c false) l (A40.c (A40.c false))).bind fun tree =>
  some (tree.2.2.1, tree.2.2.2)
def xZq (N : Nat) (s : List xZ0) (x : Int) (next0 : Int → Option Int) (x2 : Int) : Option Int :=
  bif (ltB x2 x) then
   (ix s x2).bind fun e =>
   (xZJ N e).bind fun leaf =>
   bif leaf then
    some x2
   else
    gd (i64b (x2 + 1)) (
    next0 (x2 + 1))
  else
   some (-1)
def xZz (N : Nat) (s : List xZ0) : Option Int :=
  lp1 (xZq N s (List.length s : Int)) N 0
def xZk (N : Nat) (vat : Int) (y : List xZ0) (y2 : Int) (y3 : List UInt8) (y4 : Int) (y5 : List xZ2) (y6 : List xZ0) (y7 : A40 (A40 Bool)) : Option (xZ2 × Bool × List xZ0 × Int × List UInt8 × Int × List xZ2 × List xZ0 × A40 (A40 Bool)) :=
  (ix y vat).bind fun e =>
  (xZ69 N y5 e.Type_).bind fun find =>
  some (find.1, find.2, y, y2, y3, y4, y5, y6, y7)
def xZW (N : Nat) (vat : Int) (first : Int) (x : List xZ0) (x2 : Int) (y : List xZ0) (y2 : Int) (y3 : List UInt8) (y4 : Int) (y5 : List xZ2) (y6 : List xZ0) (y7 : A40 (A40 Bool)) (y12 : List UInt8) (next0 : Int → Option (Int × List xZ0 × Int × List UInt8 × Int × List xZ2 × List xZ0 × A40 (A40 Bool))) (x3 : Int) : Option (Int × List xZ0 × Int × List UInt8 × Int × List xZ2 × List xZ0 × A40 (A40 Bool)) :=
  bif (ltB x3 x2) then
   (ix x x3).bind fun e2 =>
   (xZJ N e2).bind fun leaf =>
   bif leaf then
    bif (e2.Var == y12) then
     some (21, y, y2, y3, y4, y5, y6, y7)
    else
     gd (i64b (x3 + 1)) (
     next0 (x3 + 1))
   else
    gd (i64b (x3 + 1)) (
    next0 (x3 + 1))
  else
   (xZk N vat y y2 y3 y4 y5 y6 y7).bind fun type =>
   bif (!type.2.1) then
    some (6, type.2.2.1, type.2.2.2.1, type.2.2.2.2.1, type.2.2.2.2.2.1, type.2.2.2.2.2.2.1, type.2.2.2.2.2.2.2.1, type.2.2.2.2.2.2.2.2)
   else
    bif (type.2.2.2.2.1 == []) then
     some (0, type.2.2.1, type.2.2.2.1, type.2.2.2.2.1, type.2.2.2.2.2.1, type.2.2.2.2.2.2.1, type.2.2.2.2.2.2.2.1, type.2.2.2.2.2.2.2.2)
    else
     (xZk N first type.2.2.1 type.2.2.2.1 type.2.2.2.2.1 type.2.2.2.2.2.1 type.2.2.2.2.2.2.1 type.2.2.2.2.2.2.2.1 type.2.2.2.2.2.2.2.2).bind fun type2 =>
     (xZZ N type2.1 type2.2.2.2.2.1).bind fun fiel =>
     (xZZ N type.1 type2.2.2.2.2.1).bind fun fiel2 =>
     bif (ltB fiel2.1 0) then
      some (19, type2.2.2.1, type2.2.2.2.1, type2.2.2.2.2.1, type2.2.2.2.2.2.1, type2.2.2.2.2.2.2.1, type2.2.2.2.2.2.2.2.1, type2.2.2.2.2.2.2.2.2)
     else
      bif (fiel2.2 != fiel.2) then
       some (19, type2.2.2.1, type2.2.2.2.1, type2.2.2.2.2.1, type2.2.2.2.2.2.1, type2.2.2.2.2.2.2.1, type2.2.2.2.2.2.2.2.1, type2.2.2.2.2.2.2.2.2)
      else
       some (0, type2.2.2.1, type2.2.2.2.1, type2.2.2.2.2.1, type2.2.2.2.2.2.1, type2.2.2.2.2.2.2.1, type2.2.2.2.2.2.2.2.1, type2.2.2.2.2.2.2.2.2)
def xZ1q (N : Nat) (vat : Int) (first : Int) (y : List xZ0) (y2 : Int) (y3 : List UInt8) (y4 : Int) (y5 : List xZ2) (y6 : List xZ0) (y7 : A40 (A40 Bool)) : Option (Int × List xZ0 × Int × List UInt8 × Int × List xZ2 × List xZ0 × A40 (A40 Bool)) :=
  (ix y vat).bind fun e =>
  gd (leB 0 vat) (
  gd (leB vat (List.length y : Int)) (
  lp1 (xZW N vat first (List.take (Int.toNat vat) y) (List.length (List.take (Int.toNat vat) y) : Int) y y2 y3 y4 y5 y6 y7 e.Var) N 0))
def xZd (N : Nat) (vat : Int) (n : xZ1) (y : List xZ0) (y2 : Int) (y3 : List UInt8) (y4 : Int) (y5 : List xZ2) (y6 : List xZ0) (y7 : A40 (A40 Bool)) : Option (Int × Int × List xZ0 × Int × List UInt8 × Int × List xZ2 × List xZ0 × A40 (A40 Bool)) :=
  bif (n.Kind == 8) then
   (xZ8g N y n.Var).bind fun id =>
   bif (ltB id 0) then
    some (0, 14, y, y2, y3, y4, y5, y6, y7)
   else
    gd (leB 0 vat) (
    gd (ltB vat 40) (
    gd (leB 0 id) (
    gd (ltB id 40) (
    (ix (A40.l y7) vat).bind fun e =>
    (ix (A40.l e) id).bind fun e2 =>
    bif (!e2) then
     some (0, 14, y, y2, y3, y4, y5, y6, y7)
    else
     (xZk N id y y2 y3 y4 y5 y6 y7).bind fun type =>
     (xZZ N type.1 n.Name).bind fun fiel =>
     bif (fiel.2 == 0) then
      some (0, 19, type.2.2.1, type.2.2.2.1, type.2.2.2.2.1, type.2.2.2.2.2.1, type.2.2.2.2.2.2.1, type.2.2.2.2.2.2.2.1, type.2.2.2.2.2.2.2.2)
     else
      some (fiel.2, 0, type.2.2.1, type.2.2.2.1, type.2.2.2.2.1, type.2.2.2.2.2.1, type.2.2.2.2.2.2.1, type.2.2.2.2.2.2.2.1, type.2.2.2.2.2.2.2.2)))))
  else
   (xZk N vat y y2 y3 y4 y5 y6 y7).bind fun type2 =>
   (xZZ N type2.1 n.Name).bind fun fiel2 =>
   bif (fiel2.2 == 0) then
    some (0, 19, type2.2.2.1, type2.2.2.2.1, type2.2.2.2.2.1, type2.2.2.2.2.2.1, type2.2.2.2.2.2.2.1, type2.2.2.2.2.2.2.2.1, type2.2.2.2.2.2.2.2.2)
   else
    some (fiel2.2, 0, type2.2.2.1, type2.2.2.2.1, type2.2.2.2.2.1, type2.2.2.2.2.2.1, type2.2.2.2.2.2.2.1, type2.2.2.2.2.2.2.2.1, type2.2.2.2.2.2.2.2.2)
def xZ2N (N : Nat) (kind : Int) : Option Bool :=
  bif (kind == 1) then
   some true
  else
   some (kind == 3)
def xZF (N : Nat) (va : Int) (b : Int) : Option Int :=
  (xZ2N N va).bind fun nume =>
  bif (!nume) then
   some 0
  else
   (xZ2N N b).bind fun nume2 =>
   bif (!nume2) then
    some 0
   else
    some (max va b)
abbrev xZ2d : Type := (Int → Int → (List xZ0) → Int → (List UInt8) → Int → (List xZ2) → (List xZ0) → (A40 (A40 Bool)) → Option (Int × Int × List xZ0 × Int × List UInt8 × Int × List xZ2 × List xZ0 × A40 (A40 Bool)))
def xZT (N : Nat) (p : xZ2d) (vat : Int) (k : Int) (y : List xZ0) (y2 : Int) (y3 : List UInt8) (y4 : Int) (y5 : List xZ2) (y6 : List xZ0) (y7 : A40 (A40 Bool)) : Option (Int × Int × List xZ0 × Int × List UInt8 × Int × List xZ2 × List xZ0 × A40 (A40 Bool)) :=
  (ix y vat).bind fun e =>
  (ix e.Test k).bind fun e2 =>
  bif (e2.Kind == 9) then
   gd (i64b (k + 1)) (
   some (e2.Val.Kind, (k + 1), y, y2, y3, y4, y5, y6, y7))
  else
   bif (e2.Kind == 7) then
    bif (e2.Kind == 7) then
     (xZd N vat e2 y y2 y3 y4 y5 y6 y7).bind fun fiel =>
     gd (i64b (k + 1)) (
     some (fiel.1, (k + 1), fiel.2.2.1, fiel.2.2.2.1, fiel.2.2.2.2.1, fiel.2.2.2.2.2.1, fiel.2.2.2.2.2.2.1, fiel.2.2.2.2.2.2.2.1, fiel.2.2.2.2.2.2.2.2))
    else
     gd (i64b (k + 1)) (
     (p vat (k + 1) y y2 y3 y4 y5 y6 y7).bind fun side =>
     (p vat side.2.1 side.2.2.1 side.2.2.2.1 side.2.2.2.2.1 side.2.2.2.2.2.1 side.2.2.2.2.2.2.1 side.2.2.2.2.2.2.2.1 side.2.2.2.2.2.2.2.2).bind fun side2 =>
     (xZF N side.1 side2.1).bind fun sum =>
     some (sum, side2.2.1, side2.2.2.1, side2.2.2.2.1, side2.2.2.2.2.1, side2.2.2.2.2.2.1, side2.2.2.2.2.2.2.1, side2.2.2.2.2.2.2.2.1, side2.2.2.2.2.2.2.2.2))
   else
    bif (e2.Kind == 8) then
     (xZd N vat e2 y y2 y3 y4 y5 y6 y7).bind fun fiel2 =>
     gd (i64b (k + 1)) (
     some (fiel2.1, (k + 1), fiel2.2.2.1, fiel2.2.2.2.1, fiel2.2.2.2.2.1, fiel2.2.2.2.2.2.1, fiel2.2.2.2.2.2.2.1, fiel2.2.2.2.2.2.2.2.1, fiel2.2.2.2.2.2.2.2.2))
    else
     gd (i64b (k + 1)) (
     (p vat (k + 1) y y2 y3 y4 y5 y6 y7).bind fun side3 =>
     (p vat side3.2.1 side3.2.2.1 side3.2.2.2.1 side3.2.2.2.2.1 side3.2.2.2.2.2.1 side3.2.2.2.2.2.2.1 side3.2.2.2.2.2.2.2.1 side3.2.2.2.2.2.2.2.2).bind fun side4 =>
     (xZF N side3.1 side4.1).bind fun sum2 =>
     some (sum2, side4.2.1, side4.2.2.1, side4.2.2.2.1, side4.2.2.2.2.1, side4.2.2.2.2.2.1, side4.2.2.2.2.2.2.1, side4.2.2.2.2.2.2.2.1, side4.2.2.2.2.2.2.2.2))
def xZN (N : Nat) : xZ2d := Nat.rec (motive := fun _ => xZ2d) (fun _ _ _ _ _ _ _ _ _ => none) (fun N p => (xZT N p)) N
def xZb (N : Nat) (vat : Int) (k : Int) (y : List xZ0) (y2 : Int) (y3 : List UInt8) (y4 : Int) (y5 : List xZ2) (y6 : List xZ0) (y7 : A40 (A40 Bool)) : Option (Int × Int × List xZ0 × Int × List UInt8 × Int × List xZ2 × List xZ0 × A40 (A40 Bool)) := (xZN N) vat k y y2 y3 y4 y5 y6 y7
def xZ3f (N : Nat) (op : Int) (va : Int) (b : Int) : Option Bool :=
  bif (op == 1) then
   bif (op == 1) then
    (xZF N va b).bind fun sum =>
    bif (sum != 0) then
     some true
    else
     bif (va == b) then
      bif (va == 4) then
       some true
      else
       some (va == 2)
     else
      some false
   else
    bif (op == 3) then
     bif (op == 3) then
      (xZF N va b).bind fun sum2 =>
      bif (sum2 != 0) then
       some true
      else
       bif (va == b) then
        some (va == 4)
       else
        some false
     else
      some false
    else
     bif (op == 4) then
      bif (op == 4) then
       (xZF N va b).bind fun sum3 =>
       bif (sum3 != 0) then
        some true
       else
        bif (va == b) then
         some (va == 4)
        else
         some false
      else
       some false
     else
      bif (op == 5) then
       bif (op == 5) then
        (xZF N va b).bind fun sum4 =>
        bif (sum4 != 0) then
         some true
        else
         bif (va == b) then
          some (va == 4)
         else
          some false
       else
        some false
      else
       bif (op == 6) then
        (xZF N va b).bind fun sum5 =>
        bif (sum5 != 0) then
         some true
        else
         bif (va == b) then
          some (va == 4)
         else
          some false
       else
        some false
  else
   bif (op == 2) then
    (xZF N va b).bind fun sum6 =>
    bif (sum6 != 0) then
     some true
    else
     bif (va == b) then
      bif (va == 4) then
       some true
      else
       some (va == 2)
     else
      some false
   else
    bif (op == 3) then
     bif (op == 3) then
      (xZF N va b).bind fun sum7 =>
      bif (sum7 != 0) then
       some true
      else
       bif (va == b) then
        some (va == 4)
       else
        some false
     else
      some false
    else
     bif (op == 4) then
      bif (op == 4) then
       (xZF N va b).bind fun sum8 =>
       bif (sum8 != 0) then
        some true
       else
        bif (va == b) then
         some (va == 4)
        else
         some false
      else
       some false
     else
      bif (op == 5) then
       bif (op == 5) then
        (xZF N va b).bind fun sum9 =>
        bif (sum9 != 0) then
         some true
        else
         bif (va == b) then
          some (va == 4)
         else
          some false
       else
        some false
      else
       bif (op == 6) then
        (xZF N va b).bind fun sum10 =>
        bif (sum10 != 0) then
         some true
        else
         bif (va == b) then
          some (va == 4)
         else
          some false
       else
        some false
def xZ1F (N : Nat) (vat : Int) (k : Int) (y : List xZ0) (y2 : Int) (y3 : List UInt8) (y4 : Int) (y5 : List xZ2) (y6 : List xZ0) (y7 : A40 (A40 Bool)) : Option (Bool × List xZ0 × Int × List UInt8 × Int × List xZ2 × List xZ0 × A40 (A40 Bool)) :=
  (ix y vat).bind fun e =>
  (ix e.Test k).bind fun e2 =>
  bif (e2.Kind == 5) then
   bif (e2.Kind == 5) then
    (xZb N vat k y y2 y3 y4 y5 y6 y7).bind fun side =>
    some ((side.1 != 0), side.2.2.1, side.2.2.2.1, side.2.2.2.2.1, side.2.2.2.2.2.1, side.2.2.2.2.2.2.1, side.2.2.2.2.2.2.2.1, side.2.2.2.2.2.2.2.2)
   else
    bif (e2.Kind == 4) then
     gd (i64b (k + 1)) (
     (xZb N vat (k + 1) y y2 y3 y4 y5 y6 y7).bind fun side2 =>
     (xZb N vat side2.2.1 side2.2.2.1 side2.2.2.2.1 side2.2.2.2.2.1 side2.2.2.2.2.2.1 side2.2.2.2.2.2.2.1 side2.2.2.2.2.2.2.2.1 side2.2.2.2.2.2.2.2.2).bind fun side3 =>
     (xZ3f N e2.Op side2.1 side3.1).bind fun fits =>
     some (fits, side3.2.2.1, side3.2.2.2.1, side3.2.2.2.2.1, side3.2.2.2.2.2.1, side3.2.2.2.2.2.2.1, side3.2.2.2.2.2.2.2.1, side3.2.2.2.2.2.2.2.2))
    else
     some (true, y, y2, y3, y4, y5, y6, y7)
  else
   bif (e2.Kind == 6) then
    (xZb N vat k y y2 y3 y4 y5 y6 y7).bind fun side4 =>
    some ((side4.1 != 0), side4.2.2.1, side4.2.2.2.1, side4.2.2.2.2.1, side4.2.2.2.2.2.1, side4.2.2.2.2.2.2.1, side4.2.2.2.2.2.2.2.1, side4.2.2.2.2.2.2.2.2)
   else
    bif (e2.Kind == 4) then
     gd (i64b (k + 1)) (
     (xZb N vat (k + 1) y y2 y3 y4 y5 y6 y7).bind fun side5 =>
     (xZb N vat side5.2.1 side5.2.2.1 side5.2.2.2.1 side5.2.2.2.2.1 side5.2.2.2.2.2.1 side5.2.2.2.2.2.2.1 side5.2.2.2.2.2.2.2.1 side5.2.2.2.2.2.2.2.2).bind fun side6 =>
     (xZ3f N e2.Op side5.1 side6.1).bind fun fits2 =>
     some (fits2, side6.2.2.1, side6.2.2.2.1, side6.2.2.2.2.1, side6.2.2.2.2.2.1, side6.2.2.2.2.2.2.1, side6.2.2.2.2.2.2.2.1, side6.2.2.2.2.2.2.2.2))
    else
     some (true, y, y2, y3, y4, y5, y6, y7)
def xZ25 (N : Nat) (vat : Int) (x4 : Int) (next2 : Int → (List xZ0) → Int → (List UInt8) → Int → (List xZ2) → (List xZ0) → (A40 (A40 Bool)) → Option (Int × List xZ0 × Int × List UInt8 × Int × List xZ2 × List xZ0 × A40 (A40 Bool))) (x5 : Int) (y15 : List xZ0) (y16 : Int) (y17 : List UInt8) (y18 : Int) (y19 : List xZ2) (y20 : List xZ0) (y21 : A40 (A40 Bool)) : Option (Int × List xZ0 × Int × List UInt8 × Int × List xZ2 × List xZ0 × A40 (A40 Bool)) :=
  bif (ltB x5 x4) then
   (xZ1F N vat x5 y15 y16 y17 y18 y19 y20 y21).bind fun fits =>
   bif (!fits.1) then
    some (19, fits.2.1, fits.2.2.1, fits.2.2.2.1, fits.2.2.2.2.1, fits.2.2.2.2.2.1, fits.2.2.2.2.2.2.1, fits.2.2.2.2.2.2.2)
   else
    gd (i64b (x5 + 1)) (
    next2 (x5 + 1) fits.2.1 fits.2.2.1 fits.2.2.2.1 fits.2.2.2.2.1 fits.2.2.2.2.2.1 fits.2.2.2.2.2.2.1 fits.2.2.2.2.2.2.2)
  else
   some (0, y15, y16, y17, y18, y19, y20, y21)
def xZ21 (N : Nat) (vat : Int) (l : List xZ1) (x : List xZ1) (x2 : Int) (next0 : Int → (List xZ0) → Int → (List UInt8) → Int → (List xZ2) → (List xZ0) → (A40 (A40 Bool)) → Option (Int × List xZ0 × Int × List UInt8 × Int × List xZ2 × List xZ0 × A40 (A40 Bool))) (x3 : Int) (y8 : List xZ0) (y9 : Int) (y10 : List UInt8) (y11 : Int) (y12 : List xZ2) (y13 : List xZ0) (y14 : A40 (A40 Bool)) : Option (Int × List xZ0 × Int × List UInt8 × Int × List xZ2 × List xZ0 × A40 (A40 Bool)) :=
  bif (ltB x3 x2) then
   (ix x x3).bind fun e2 =>
   bif (e2.Kind != 7) then
    bif (e2.Kind != 8) then
     gd (i64b (x3 + 1)) (
     next0 (x3 + 1) y8 y9 y10 y11 y12 y13 y14)
    else
     (xZd N vat e2 y8 y9 y10 y11 y12 y13 y14).bind fun fiel =>
     bif (fiel.2.1 != 0) then
      some (fiel.2.1, fiel.2.2.1, fiel.2.2.2.1, fiel.2.2.2.2.1, fiel.2.2.2.2.2.1, fiel.2.2.2.2.2.2.1, fiel.2.2.2.2.2.2.2.1, fiel.2.2.2.2.2.2.2.2)
     else
      gd (i64b (x3 + 1)) (
      next0 (x3 + 1) fiel.2.2.1 fiel.2.2.2.1 fiel.2.2.2.2.1 fiel.2.2.2.2.2.1 fiel.2.2.2.2.2.2.1 fiel.2.2.2.2.2.2.2.1 fiel.2.2.2.2.2.2.2.2)
   else
    (xZd N vat e2 y8 y9 y10 y11 y12 y13 y14).bind fun fiel2 =>
    bif (fiel2.2.1 != 0) then
     some (fiel2.2.1, fiel2.2.2.1, fiel2.2.2.2.1, fiel2.2.2.2.2.1, fiel2.2.2.2.2.2.1, fiel2.2.2.2.2.2.2.1, fiel2.2.2.2.2.2.2.2.1, fiel2.2.2.2.2.2.2.2.2)
    else
     gd (i64b (x3 + 1)) (
     next0 (x3 + 1) fiel2.2.2.1 fiel2.2.2.2.1 fiel2.2.2.2.2.1 fiel2.2.2.2.2.2.1 fiel2.2.2.2.2.2.2.1 fiel2.2.2.2.2.2.2.2.1 fiel2.2.2.2.2.2.2.2.2)
  else
   lp8 (xZ25 N vat (List.length l : Int)) N 0 y8 y9 y10 y11 y12 y13 y14
def xZ1B (N : Nat) (vat : Int) (y : List xZ0) (y2 : Int) (y3 : List UInt8) (y4 : Int) (y5 : List xZ2) (y6 : List xZ0) (y7 : A40 (A40 Bool)) : Option (Int × List xZ0 × Int × List UInt8 × Int × List xZ2 × List xZ0 × A40 (A40 Bool)) :=
  (ix y vat).bind fun e =>
  lp8 (xZ21 N vat e.Test e.Test (List.length e.Test : Int)) N 0 y y2 y3 y4 y5 y6 y7
def xZ3Q (N : Nat) (b : A40 Bool) (next0 : Int → (A40 Bool) → Option (A40 Bool)) (x : Int) (y : A40 Bool) : Option (A40 Bool) :=
  bif (ltB x 40) then
   gd (leB 0 x) (
   gd (ltB x 40) (
   (ix (A40.l y) x).bind fun e =>
   bif e then
    gd (leB 0 x) (
    gd (ltB x 40) (
    (ix (A40.l y) x).bind fun e2 =>
    gd (i64b (x + 1)) (
    next0 (x + 1) (A40.set y x true))))
   else
    gd (leB 0 x) (
    gd (ltB x 40) (
    (ix (A40.l b) x).bind fun e3 =>
    gd (leB 0 x) (
    gd (ltB x 40) (
    (ix (A40.l y) x).bind fun e4 =>
    gd (i64b (x + 1)) (
    next0 (x + 1) (A40.set y x e3))))))))
  else
   some y
def xZ1Q (N : Nat) (va : A40 Bool) (b : A40 Bool) : Option (A40 Bool) :=
  lp2 (xZ3Q N b) N 0 va
abbrev xZ1J : Type := (Int → (List xZ0) → (A40 Bool) → Option (Bool × A40 Bool × Int × List xZ0 × A40 Bool))
def xZ1G (N : Nat) (p : xZ1J) (kids : Int) (y6 : Int) (y8 : Int) (next0 : Bool → Int → Int → (List xZ0) → (A40 Bool) → (A40 Bool) → Option (Bool × A40 Bool × Int × List xZ0 × A40 Bool)) (vnone : Bool) (vnext : Int) (x : Int) (y3 : List xZ0) (y4 : A40 Bool) (y13 : A40 Bool) : Option (Bool × A40 Bool × Int × List xZ0 × A40 Bool) :=
  bif (ltB x kids) then
   (p vnext y3 y4).bind fun tree =>
   bif (y6 == 2) then
    (xZ1Q N y13 tree.2.1).bind fun eith =>
    bif (y6 == 2) then
     bif vnone then
      gd (i64b (x + 1)) (
      next0 true tree.2.2.1 (x + 1) tree.2.2.2.1 tree.2.2.2.2 eith)
     else
      gd (i64b (x + 1)) (
      next0 tree.1 tree.2.2.1 (x + 1) tree.2.2.2.1 tree.2.2.2.2 eith)
    else
     bif vnone then
      gd (i64b (x + 1)) (
      next0 tree.1 tree.2.2.1 (x + 1) tree.2.2.2.1 tree.2.2.2.2 eith)
     else
      gd (i64b (x + 1)) (
      next0 false tree.2.2.1 (x + 1) tree.2.2.2.1 tree.2.2.2.2 eith)
   else
    bif vnone then
     (xZ1Q N y13 tree.2.1).bind fun eith2 =>
     bif (y6 == 2) then
      bif vnone then
       gd (i64b (x + 1)) (
       next0 true tree.2.2.1 (x + 1) tree.2.2.2.1 tree.2.2.2.2 eith2)
      else
       gd (i64b (x + 1)) (
       next0 tree.1 tree.2.2.1 (x + 1) tree.2.2.2.1 tree.2.2.2.2 eith2)
     else
      bif vnone then
       gd (i64b (x + 1)) (
       next0 tree.1 tree.2.2.1 (x + 1) tree.2.2.2.1 tree.2.2.2.2 eith2)
      else
       gd (i64b (x + 1)) (
       next0 false tree.2.2.1 (x + 1) tree.2.2.2.1 tree.2.2.2.2 eith2)
    else
     bif (y6 == 2) then
      bif vnone then
       gd (i64b (x + 1)) (
       next0 true tree.2.2.1 (x + 1) tree.2.2.2.1 tree.2.2.2.2 y13)
      else
       gd (i64b (x + 1)) (
       next0 tree.1 tree.2.2.1 (x + 1) tree.2.2.2.1 tree.2.2.2.2 y13)
     else
      bif vnone then
       gd (i64b (x + 1)) (
       next0 tree.1 tree.2.2.1 (x + 1) tree.2.2.2.1 tree.2.2.2.2 y13)
      else
       gd (i64b (x + 1)) (
       next0 false tree.2.2.1 (x + 1) tree.2.2.2.1 tree.2.2.2.2 y13)
  else
   bif (y6 == 3) then
    (xZ1Q N y4 y13).bind fun eith3 =>
    bif vnone then
     some (true, y13, vnext, y3, eith3)
    else
     some ((y8 == 0), y13, vnext, y3, eith3)
   else
    some (vnone, y13, vnext, y3, y4)
def xZw (N : Nat) (p : xZ1J) (vat : Int) (y : List xZ0) (y2 : A40 Bool) : Option (Bool × A40 Bool × Int × List xZ0 × A40 Bool) :=
  (ix y vat).bind fun e =>
  (xZJ N e).bind fun leaf =>
  bif leaf then
   gd (leB 0 vat) (
   gd (ltB vat 40) (
   (ix (A40.l (A40.c false)) vat).bind fun e2 =>
   gd (i64b (vat + 1)) (
   some (false, (A40.set (A40.c false) vat true), (vat + 1), y, y2))))
  else
   gd (i64b (vat + 1)) (
   (xZ4L N e).bind fun kids =>
   lp6 (xZ1G N p kids e.Kind e.Lo) N (e.Kind != 2) (vat + 1) 0 y y2 (A40.c false))
def xZo (N : Nat) : xZ1J := Nat.rec (motive := fun _ => xZ1J) (fun _ _ _ => none) (fun N p => (xZw N p)) N
def xZ4A (N : Nat) (vat : Int) (y : List xZ0) (y2 : A40 Bool) : Option (Bool × A40 Bool × Int × List xZ0 × A40 Bool) := (xZo N) vat y y2
def xZ4T (N : Nat) (empty : Bool) (x6 : List xZ0) (x7 : Int) (y20 : A40 Bool) (y21 : A40 Bool) (next4 : Int → Option (Int × Int)) (x8 : Int) : Option (Int × Int) :=
  bif (ltB x8 x7) then
   (ix x6 x8).bind fun e2 =>
   bif (e2.Kind == 5) then
    gd (leB 0 x8) (
    gd (ltB x8 40) (
    (ix (A40.l y21) x8).bind fun e3 =>
    bif e3 then
     some (17, x8)
    else
     gd (leB 0 x8) (
     gd (ltB x8 40) (
     (ix (A40.l y20) x8).bind fun e4 =>
     bif e4 then
      some (17, x8)
     else
      gd (i64b (x8 + 1)) (
      next4 (x8 + 1))))))
   else
    gd (i64b (x8 + 1)) (
    next4 (x8 + 1))
  else
   bif empty then
    some (16, 0)
   else
    some (0, 0)
def xZ6W (N : Nat) (x4 : Int) (y : List xZ0) (next2 : Int → (List xZ0) → Int → (List UInt8) → Int → (List xZ2) → (List xZ0) → (A40 (A40 Bool)) → Option (Int × Int)) (x5 : Int) (y12 : List xZ0) (y13 : Int) (y14 : List UInt8) (y15 : Int) (y16 : List xZ2) (y17 : List xZ0) (y18 : A40 (A40 Bool)) : Option (Int × Int) :=
  bif (ltB x5 x4) then
   (xZ1B N x5 y12 y13 y14 y15 y16 y17 y18).bind fun test =>
   bif (test.1 != 0) then
    some (test.1, x5)
   else
    gd (i64b (x5 + 1)) (
    next2 (x5 + 1) test.2.1 test.2.2.1 test.2.2.2.1 test.2.2.2.2.1 test.2.2.2.2.2.1 test.2.2.2.2.2.2.1 test.2.2.2.2.2.2.2)
  else
   (xZ4A N 0 y (A40.c false)).bind fun tree =>
   lp1 (xZ4T N tree.1 y (List.length y : Int) tree.2.2.2.2 tree.2.1) N 0
def xZ6E (N : Nat) (node : Int) (x : List xZ0) (x2 : Int) (y : List xZ0) (next0 : Int → (List xZ0) → Int → (List UInt8) → Int → (List xZ2) → (List xZ0) → (A40 (A40 Bool)) → Option (Int × Int)) (x3 : Int) (y5 : List xZ0) (y6 : Int) (y7 : List UInt8) (y8 : Int) (y9 : List xZ2) (y10 : List xZ0) (y11 : A40 (A40 Bool)) : Option (Int × Int) :=
  bif (ltB x3 x2) then
   (ix x x3).bind fun e =>
   (xZJ N e).bind fun leaf =>
   bif (!leaf) then
    gd (i64b (x3 + 1)) (
    next0 (x3 + 1) y5 y6 y7 y8 y9 y10 y11)
   else
    (xZ1q N x3 node y5 y6 y7 y8 y9 y10 y11).bind fun name =>
    bif (name.1 != 0) then
     some (name.1, x3)
    else
     gd (i64b (x3 + 1)) (
     next0 (x3 + 1) name.2.1 name.2.2.1 name.2.2.2.1 name.2.2.2.2.1 name.2.2.2.2.2.1 name.2.2.2.2.2.2.1 name.2.2.2.2.2.2.2)
  else
   lp8 (xZ6W N (List.length y : Int) y) N 0 y5 y6 y7 y8 y9 y10 y11
def xZ41 (N : Nat) (p : xZ6) (types : List xZ2) : Option (Int × Int) :=
  (xZ4W N p).bind fun chec =>
  bif (chec != 0) then
   some (2, 0)
  else
   (xZ5q N types).bind fun chec2 =>
   bif (chec2 != 0) then
    some (2, 0)
   else
    bothN EqR.cls 1 (
     (xZ7E N p.Body).bind fun sure =>
     (xZz N p.Body).bind fun node =>
     lp8 (xZ6E N node p.Body (List.length p.Body : Int) p.Body) N 0 p.Body p.Within p.By p.Mode types sure.1 sure.2)
def xZK (N : Nat) (y : List xZ0) (y2 : List Int) (y3 : Int) (y4 : Bool) : Option (Int × List xZ0 × List Int × Int × Bool) :=
  bif (y3 == 200) then
   some (0, y, y2, y3, true)
  else
   gd (i64b (y3 + 1)) (
   bif (ltB (List.length y2 : Int) (y3 + 1)) then
    some (0, y, y2, (y3 + 1), y4)
   else
    gd (i64b ((y3 + 1) - 1)) (
    (ix y2 ((y3 + 1) - 1)).bind fun e =>
    some ((max 0 (min e 8)), y, y2, (y3 + 1), y4)))
def xZ80 (N : Nat) (x : List xZ0) (x2 : Int) (next0 : Int → Int → Option Int) (lack : Int) (x3 : Int) : Option Int :=
  bif (ltB x3 x2) then
   (ix x x3).bind fun e =>
   (xZ2M N e).bind fun kids =>
   gd (i64b (kids - 1)) (
   gd (i64b (lack + (kids - 1))) (
   bif ((lack + (kids - 1)) == 0) then
    gd (i64b (x3 + 1)) (
    some (x3 + 1))
   else
    gd (i64b (x3 + 1)) (
    next0 (lack + (kids - 1)) (x3 + 1))))
  else
   some 0
def xZ2H (N : Nat) (l : List xZ0) (vat : Int) : Option Int :=
  bif (ltB vat 0) then
   some 0
  else
   bif (leB (List.length l : Int) vat) then
    some 0
   else
    gd (leB 0 vat) (
    gd (leB vat (List.length l : Int)) (
    lp2 (xZ80 N (List.drop (Int.toNat vat) l) (List.length (List.drop (Int.toNat vat) l) : Int)) N 1 0))
def xZu (N : Nat) (y : List xZ0) (y2 : List Int) (y3 : Int) (y4 : Bool) (xs : List Int) : Option (Int × List xZ0 × List Int × Int × Bool × List Int) :=
  bif (y3 == 200) then
   some (0, y, y2, y3, true, xs)
  else
   gd (i64b (y3 + 1)) (
   bif (ltB (List.length y2 : Int) (y3 + 1)) then
    some (0, y, y2, (y3 + 1), y4, xs)
   else
    gd (i64b ((y3 + 1) - 1)) (
    (ix y2 ((y3 + 1) - 1)).bind fun e =>
    some ((max 0 (min e 8)), y, y2, (y3 + 1), y4, xs)))
abbrev xZC : Type := (Int → (List xZ0) → (List Int) → Int → Bool → (List Int) → Option ((List xZ0 × List Int × Int × Bool × List Int) ⊕ (List xZ0 × List Int × Int × Bool × List Int)))
def xZ2o (N : Nat) (p : xZC) (x : Int) (y5 : List xZ0) (y6 : List Int) (y7 : Int) (y8 : Bool) (ys : List Int) (next3 : Int → Int → Option ((List xZ0 × List Int × Int × Bool × List Int) ⊕ (List xZ0 × List Int × Int × Bool × List Int))) (vnext : Int) (x2 : Int) : Option ((List xZ0 × List Int × Int × Bool × List Int) ⊕ (List xZ0 × List Int × Int × Bool × List Int)) :=
  bif (ltB x2 x) then
   (xZ2H N y5 vnext).bind fun size =>
   gd (i64b (vnext + size)) (
   gd (i64b (x2 + 1)) (
   next3 (vnext + size) (x2 + 1)))
  else
   (p vnext y5 y6 y7 y8 ys).bind fun x => Sum.elim
   (fun tree =>
    some (Sum.inl (tree.1, tree.2.1, tree.2.2.1, tree.2.2.2.1, tree.2.2.2.2)))
   (fun tree2 =>
    some (Sum.inr (tree2.1, tree2.2.1, tree2.2.2.1, tree2.2.2.2.1, tree2.2.2.2.2))) x
def xZM (N : Nat) (p : xZC) (vat : Int) (times : Int) (next5 : Int → (List xZ0) → (List Int) → Int → Bool → (List Int) → Option ((List xZ0 × List Int × Int × Bool × List Int) ⊕ (List xZ0 × List Int × Int × Bool × List Int))) (i : Int) (y9 : List xZ0) (y10 : List Int) (y11 : Int) (y12 : Bool) (ys2 : List Int) : Option ((List xZ0 × List Int × Int × Bool × List Int) ⊕ (List xZ0 × List Int × Int × Bool × List Int)) :=
  bif (ltB i times) then
   bif (!y12) then
    gd (i64b (vat + 1)) (
    (p (vat + 1) y9 y10 y11 y12 ys2).bind fun x => Sum.elim
    (fun tree3 =>
     gd (i64b (i + 1)) (
     next5 (i + 1) tree3.1 tree3.2.1 tree3.2.2.1 tree3.2.2.2.1 tree3.2.2.2.2))
    (fun tree4 =>
     gd (i64b (i + 1)) (
     next5 (i + 1) tree4.1 tree4.2.1 tree4.2.2.1 tree4.2.2.2.1 tree4.2.2.2.2)) x)
   else
    some (Sum.inr (y9, y10, y11, y12, ys2))
  else
   some (Sum.inr (y9, y10, y11, y12, ys2))
def xZ2j (N : Nat) (p : xZC) (y18 : Int) (next1 : Int → Int → (List xZ0) → (List Int) → Int → Bool → (List Int) → Option ((List xZ0 × List Int × Int × Bool × List Int) ⊕ (List xZ0 × List Int × Int × Bool × List Int))) (vnext2 : Int) (i2 : Int) (y13 : List xZ0) (y14 : List Int) (y15 : Int) (y16 : Bool) (ys3 : List Int) : Option ((List xZ0 × List Int × Int × Bool × List Int) ⊕ (List xZ0 × List Int × Int × Bool × List Int)) :=
  bif (ltB i2 y18) then
   bif (!y16) then
    (p vnext2 y13 y14 y15 y16 ys3).bind fun x => Sum.elim
    (fun tree5 =>
     (xZ2H N tree5.1 vnext2).bind fun size2 =>
     gd (i64b (vnext2 + size2)) (
     gd (i64b (i2 + 1)) (
     next1 (vnext2 + size2) (i2 + 1) tree5.1 tree5.2.1 tree5.2.2.1 tree5.2.2.2.1 tree5.2.2.2.2)))
    (fun tree6 =>
     (xZ2H N tree6.1 vnext2).bind fun size3 =>
     gd (i64b (vnext2 + size3)) (
     gd (i64b (i2 + 1)) (
     next1 (vnext2 + size3) (i2 + 1) tree6.1 tree6.2.1 tree6.2.2.1 tree6.2.2.2.1 tree6.2.2.2.2))) x
   else
    some (Sum.inr (y13, y14, y15, y16, ys3))
  else
   some (Sum.inr (y13, y14, y15, y16, ys3))
def xZs (N : Nat) (p : xZC) (vat : Int) (y : List xZ0) (y2 : List Int) (y3 : Int) (y4 : Bool) (xs : List Int) : Option ((List xZ0 × List Int × Int × Bool × List Int) ⊕ (List xZ0 × List Int × Int × Bool × List Int)) :=
  (ix y vat).bind fun e =>
  bif y4 then
   some (Sum.inl (y, y2, y3, y4, xs))
  else
   (xZJ N e).bind fun leaf =>
   bif leaf then
    gd (Nat.ble ((List.length xs + 1) * 8) 140737488355328) (
    some (Sum.inr (y, y2, y3, ((List.length (xs ++ [vat]) : Int) == 100), (xs ++ [vat]))))
   else
    bif (e.Kind == 2) then
     gd (i64b (vat + 1)) (
     bothN EqR.cls 1 (
      (xZu N y y2 y3 y4 xs).bind fun choi =>
      gd (e.Kids != 0) (
      lp2 (xZ2o N p (Int.tmod choi.1 e.Kids) choi.2.1 choi.2.2.1 choi.2.2.2.1 choi.2.2.2.2.1 choi.2.2.2.2.2) N (vat + 1) 0)))
    else
     bif (e.Kind == 3) then
      bothN EqR.cls 1 (
       (xZu N y y2 y3 y4 xs).bind fun choi3 =>
       gd (i64b (e.Lo + choi3.1)) (
       bif (ltB 0 e.Hi) then
        lp6 (xZM N p vat (min (e.Lo + choi3.1) e.Hi)) N 0 choi3.2.1 choi3.2.2.1 choi3.2.2.2.1 choi3.2.2.2.2.1 choi3.2.2.2.2.2
       else
        lp6 (xZM N p vat (e.Lo + choi3.1)) N 0 choi3.2.1 choi3.2.2.1 choi3.2.2.2.1 choi3.2.2.2.2.1 choi3.2.2.2.2.2))
     else
      gd (i64b (vat + 1)) (
      lp7 (xZ2j N p e.Kids) N (vat + 1) 0 y y2 y3 y4 xs)
def xZa (N : Nat) : xZC := Nat.rec (motive := fun _ => xZC) (fun _ _ _ _ _ _ => none) (fun N p => (xZs N p)) N
def xZ1O (N : Nat) (vat : Int) (y : List xZ0) (y2 : List Int) (y3 : Int) (y4 : Bool) (xs : List Int) : Option ((List xZ0 × List Int × Int × Bool × List Int) ⊕ (List xZ0 × List Int × Int × Bool × List Int)) := (xZa N) vat y y2 y3 y4 xs
abbrev xZA : Type := (Int → (List xZ0) → (List Int) → Int → Bool → Option ((List xZ0 × List Int × Int × Bool) ⊕ (List xZ0 × List Int × Int × Bool × List Int)))
def xZ2c (N : Nat) (p : xZA) (x : Int) (y5 : List xZ0) (y6 : List Int) (y7 : Int) (y8 : Bool) (next3 : Int → Int → Option ((List xZ0 × List Int × Int × Bool) ⊕ (List xZ0 × List Int × Int × Bool × List Int))) (vnext : Int) (x2 : Int) : Option ((List xZ0 × List Int × Int × Bool) ⊕ (List xZ0 × List Int × Int × Bool × List Int)) :=
  bif (ltB x2 x) then
   (xZ2H N y5 vnext).bind fun size =>
   gd (i64b (vnext + size)) (
   gd (i64b (x2 + 1)) (
   next3 (vnext + size) (x2 + 1)))
  else
   (p vnext y5 y6 y7 y8).bind fun x => Sum.elim
   (fun tree =>
    some (Sum.inl (tree.1, tree.2.1, tree.2.2.1, tree.2.2.2)))
   (fun tree2 =>
    some (Sum.inr (tree2.1, tree2.2.1, tree2.2.2.1, tree2.2.2.2.1, tree2.2.2.2.2))) x
def xZO (N : Nat) (p : xZA) (vat : Int) (times : Int) (next5 : Int → (List xZ0) → (List Int) → Int → Bool → (List Int) → Option ((List xZ0 × List Int × Int × Bool) ⊕ (List xZ0 × List Int × Int × Bool × List Int))) (i : Int) (y9 : List xZ0) (y10 : List Int) (y11 : Int) (y12 : Bool) (ys : List Int) : Option ((List xZ0 × List Int × Int × Bool) ⊕ (List xZ0 × List Int × Int × Bool × List Int)) :=
  bif (ltB i times) then
   bif (!y12) then
    gd (i64b (vat + 1)) (
    (xZ1O N (vat + 1) y9 y10 y11 y12 ys).bind fun x => Sum.elim
    (fun tree3 =>
     gd (i64b (i + 1)) (
     next5 (i + 1) tree3.1 tree3.2.1 tree3.2.2.1 tree3.2.2.2.1 tree3.2.2.2.2))
    (fun tree4 =>
     gd (i64b (i + 1)) (
     next5 (i + 1) tree4.1 tree4.2.1 tree4.2.2.1 tree4.2.2.2.1 tree4.2.2.2.2)) x)
   else
    some (Sum.inr (y9, y10, y11, y12, ys))
  else
   some (Sum.inr (y9, y10, y11, y12, ys))
def xZ2l (N : Nat) (p : xZA) (y18 : Int) (next1 : Int → Int → (List xZ0) → (List Int) → Int → Bool → (List Int) → Option ((List xZ0 × List Int × Int × Bool) ⊕ (List xZ0 × List Int × Int × Bool × List Int))) (vnext2 : Int) (i2 : Int) (y13 : List xZ0) (y14 : List Int) (y15 : Int) (y16 : Bool) (ys2 : List Int) : Option ((List xZ0 × List Int × Int × Bool) ⊕ (List xZ0 × List Int × Int × Bool × List Int)) :=
  bif (ltB i2 y18) then
   bif (!y16) then
    (xZ1O N vnext2 y13 y14 y15 y16 ys2).bind fun x => Sum.elim
    (fun tree5 =>
     (xZ2H N tree5.1 vnext2).bind fun size2 =>
     gd (i64b (vnext2 + size2)) (
     gd (i64b (i2 + 1)) (
     next1 (vnext2 + size2) (i2 + 1) tree5.1 tree5.2.1 tree5.2.2.1 tree5.2.2.2.1 tree5.2.2.2.2)))
    (fun tree6 =>
     (xZ2H N tree6.1 vnext2).bind fun size3 =>
     gd (i64b (vnext2 + size3)) (
     gd (i64b (i2 + 1)) (
     next1 (vnext2 + size3) (i2 + 1) tree6.1 tree6.2.1 tree6.2.2.1 tree6.2.2.2.1 tree6.2.2.2.2))) x
   else
    some (Sum.inr (y13, y14, y15, y16, ys2))
  else
   some (Sum.inr (y13, y14, y15, y16, ys2))
def xZr (N : Nat) (p : xZA) (vat : Int) (y : List xZ0) (y2 : List Int) (y3 : Int) (y4 : Bool) : Option ((List xZ0 × List Int × Int × Bool) ⊕ (List xZ0 × List Int × Int × Bool × List Int)) :=
  (ix y vat).bind fun e =>
  bif y4 then
   some (Sum.inl (y, y2, y3, y4))
  else
   (xZJ N e).bind fun leaf =>
   bif leaf then
    some (Sum.inr (y, y2, y3, false, [vat]))
   else
    bif (e.Kind == 2) then
     gd (i64b (vat + 1)) (
     bothN EqR.cls 1 (
      (xZK N y y2 y3 y4).bind fun choi =>
      gd (e.Kids != 0) (
      lp2 (xZ2c N p (Int.tmod choi.1 e.Kids) choi.2.1 choi.2.2.1 choi.2.2.2.1 choi.2.2.2.2) N (vat + 1) 0)))
    else
     bif (e.Kind == 3) then
      bothN EqR.cls 1 (
       (xZK N y y2 y3 y4).bind fun choi3 =>
       gd (i64b (e.Lo + choi3.1)) (
       bif (ltB 0 e.Hi) then
        lp6 (xZO N p vat (min (e.Lo + choi3.1) e.Hi)) N 0 choi3.2.1 choi3.2.2.1 choi3.2.2.2.1 choi3.2.2.2.2 []
       else
        lp6 (xZO N p vat (e.Lo + choi3.1)) N 0 choi3.2.1 choi3.2.2.1 choi3.2.2.2.1 choi3.2.2.2.2 []))
     else
      gd (i64b (vat + 1)) (
      lp7 (xZ2l N p e.Kids) N (vat + 1) 0 y y2 y3 y4 [])
def xZ9 (N : Nat) : xZA := Nat.rec (motive := fun _ => xZA) (fun _ _ _ _ _ => none) (fun N p => (xZr N p)) N
def xZ2F (N : Nat) (vat : Int) (y : List xZ0) (y2 : List Int) (y3 : Int) (y4 : Bool) : Option ((List xZ0 × List Int × Int × Bool) ⊕ (List xZ0 × List Int × Int × Bool × List Int)) := (xZ9 N) vat y y2 y3 y4
def xZ7L (N : Nat) (p : xZ6) (choices : List Int) : Option (List Int) :=
  (xZ4W N p).bind fun chec =>
  bif (chec != 0) then
   some []
  else
   (xZ2F N 0 p.Body choices 0 false).bind fun x => Sum.elim
   (fun tree =>
    some [])
   (fun tree2 =>
    some tree2.2.2.2.2) x
def xZ3U (N : Nat) (walk : List Int) (i2 : Int) (test : List xZ1) (k : Int) (y : List xZ0) (next4 : Int → Option Bool) (next6 : Bool → Int → Option Bool) (passed : Bool) (m : Int) : Option Bool :=
  bif (ltB m i2) then
   bif passed then
    gd (i64b (m + 1)) (
    next6 true (m + 1))
   else
    (ix walk m).bind fun e9 =>
    (ix y e9).bind fun e10 =>
    (ix test k).bind fun e11 =>
    bif (e10.Var == e11.Var) then
     (ix walk m).bind fun e12 =>
     (ix y e12).bind fun e13 =>
     gd (i64b (m + 1)) (
     next6 (e13.Kind == 4) (m + 1))
    else
     gd (i64b (m + 1)) (
     next6 false (m + 1))
  else
   bif (!passed) then
    some false
   else
    gd (i64b (k + 1)) (
    next4 (k + 1))
def xZ2E (N : Nat) (walk : List Int) (i2 : Int) (y : List xZ0) (next2 : Int → Option Bool) (next8 : Int → Option Bool) (m2 : Int) : Option Bool :=
  bif (ltB m2 i2) then
   (ix walk m2).bind fun e14 =>
   (ix walk i2).bind fun e15 =>
   bif (e14 != e15) then
    (ix walk m2).bind fun e16 =>
    (ix y e16).bind fun e17 =>
    (ix walk i2).bind fun e18 =>
    (ix y e18).bind fun e19 =>
    bif (e17.Var == e19.Var) then
     some false
    else
     gd (i64b (m2 + 1)) (
     next8 (m2 + 1))
   else
    gd (i64b (m2 + 1)) (
    next8 (m2 + 1))
  else
   gd (i64b (i2 + 1)) (
   next2 (i2 + 1))
def xZ1W (N : Nat) (walk : List Int) (i2 : Int) (test : List xZ1) (y : List xZ0) (next2 : Int → Option Bool) (next4 : Int → Option Bool) (k : Int) : Option Bool :=
  bif (ltB k (List.length test : Int)) then
   (ix test k).bind fun e8 =>
   bif (e8.Var == []) then
    gd (i64b (k + 1)) (
    next4 (k + 1))
   else
    lp2 (xZ3U N walk i2 test k y next4) N false 0
  else
   lp1 (xZ2E N walk i2 y next2) N 0
def xZ1m (N : Nat) (walk : List Int) (y : List xZ0) (next2 : Int → Option Bool) (i2 : Int) : Option Bool :=
  bif (ltB i2 (List.length walk : Int)) then
   (ix walk i2).bind fun e6 =>
   (ix y e6).bind fun e7 =>
   lp1 (xZ1W N walk i2 e7.Test y next2) N 0
  else
   (xZ2a N).bind fun awak6 =>
   some awak6
def xZ1S (N : Nat) (walk : List Int) (y : List xZ0) (next0 : Int → Option Bool) (i : Int) : Option Bool :=
  bif (ltB i (List.length walk : Int)) then
   (ix walk i).bind fun e2 =>
   bif (ltB e2 0) then
    some false
   else
    (ix walk i).bind fun e3 =>
    bif (leB (List.length y : Int) e3) then
     some false
    else
     gd (i64b (i + 1)) (
     next0 (i + 1))
  else
   bif (ltB 0 (List.length walk : Int)) then
    (ix walk 0).bind fun e4 =>
    (ix y e4).bind fun e5 =>
    bif (e5.Kind != 4) then
     some false
    else
     lp1 (xZ1m N walk y) N 0
   else
    lp1 (xZ1m N walk y) N 0
def xZ3b (N : Nat) (p : xZ6) (types : List xZ2) (choices : List Int) : Option Bool :=
  (xZ7O N p).bind fun over =>
  bif (ltB 0 over) then
   (xZ2a N).bind fun awak =>
   some awak
  else
   (xZ7W N types).bind fun over2 =>
   bif (ltB 0 over2) then
    (xZ2a N).bind fun awak2 =>
    some awak2
   else
    bif (ltB 300 (List.length choices : Int)) then
     (xZ2a N).bind fun awak3 =>
     some awak3
    else
     (xZ8O N p).bind fun own =>
     (xZa4 N types).bind fun own2 =>
     (xZ41 N own own2).bind fun chec =>
     bif (chec.1 != 0) then
      bif (chec.2 == 0) then
       (xZ2a N).bind fun awak4 =>
       some awak4
      else
       bif (ltB 0 chec.2) then
        bif (ltB chec.2 (List.length own.Body : Int)) then
         (ix own.Body chec.2).bind fun e =>
         bif (leB 4 e.Kind) then
          (xZ2a N).bind fun awak5 =>
          some awak5
         else
          some false
        else
         some false
       else
        some false
     else
      (xZ7L N own choices).bind fun walk =>
      lp1 (xZ1S N walk own.Body) N 0
end
end
end Go.Proofs.YtbioikdfpfafaaaGreatDoor.R
