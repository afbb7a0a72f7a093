/- The code, and what each function of it is walked to. No premise beyond what each theorem says. -/
import Derived.Test.YtahklhniofiofaaGreatDoorKA3
import Derived.Test.YtahklhniofiofaaGreatDoorProg
set_option linter.all false
set_option linter.unusedSimpArgs false
set_option linter.unusedVariables false
namespace Go.Proofs.YtahklhniofiofaaGreatDoor.K
open Go
section
open Go.Proofs.Tryz
set_option maxRecDepth 1000000
noncomputable section
structure xZ4 where
  Kind : Int
  N : Int
  Bits : Int
  Text : List UInt8
structure xZ0 where
  Kind : Int
  At : Int
  Text : List UInt8
  Val : xZ4
structure xZ1 where
  Kind : Int
  Op : Int
  Var : List UInt8
  Name : List UInt8
  Val : xZ4
structure xZ2 where
  Kind : Int
  Kids : Int
  Lo : Int
  Hi : Int
  Var : List UInt8
  Type_ : List UInt8
  Test : List xZ1
structure xZ5 where
  Body : List xZ2
  Within : Int
  By : List UInt8
  Mode : Int
structure xZ3B where
  E : Int
  At : Int
structure xZ5C where
  L : List xZ0
  At : Int
  End : Int
  F : xZ3B
def xZU (N : Nat) (e p : Int) : Option (Unit ⊕ (Int × Int)) := bif e == 0 then some (.inl ()) else some (.inr (e, p))
def xZ3f (N : Nat) (c : Int) : Option Bool :=
  bif (leB 97 c) then
   some (leB c 122)
  else
   some false
def xZ8 (N : Nat) (e : Int) (y : List UInt8) (y2 : Int) (xs : List xZ0) : Option ((List UInt8 × Int × List xZ0) ⊕ (Int × Int × List UInt8 × Int × List xZ0)) :=
  (xZU N e y2).bind fun x => Sum.elim
  (fun new =>
   some (Sum.inl (y, y2, xs)))
  (fun new2 =>
   some (Sum.inr (new2.1, new2.2, y, y2, xs))) x
def xZ34 (N : Nat) (c : Int) : Option Bool :=
  bif (leB 48 c) then
   some (leB c 57)
  else
   some false
def xZah (N : Nat) (c : Int) : Option Bool :=
  (xZ3f N c).bind fun smal =>
  bif smal then
   some true
  else
   (xZ34 N c).bind fun digi =>
   bif digi then
    some true
   else
    some (c == 95)
def xZ2u (N : Nat) (y : List UInt8) (y2 : Int) (xs : List xZ0) (next0 : Int → Option (Int × List UInt8 × Int × List xZ0)) (n : Int) : Option (Int × List UInt8 × Int × List xZ0) :=
  gd (i64b (y2 + n)) (
  bif (ltB (y2 + n) (List.length y : Int)) then
   gd (i64b (y2 + n)) (
   (ix y (y2 + n)).bind fun c =>
   (xZah N (UInt8.toNat c : Int)).bind fun tail =>
   bif tail then
    gd (i64b (n + 1)) (
    next0 (n + 1))
   else
    some (n, y, y2, xs))
  else
   some (n, y, y2, xs))
def xZ24 (N : Nat) (y : List UInt8) (y2 : Int) (xs : List xZ0) : Option (Int × List UInt8 × Int × List xZ0) :=
  lp1 (xZ2u N y y2 xs) N 0
def xZ8t (N : Nat) (is : Bool) : Option xZ4 :=
  bif is then
   some (xZ4.mk 2 1 0 [])
  else
   some (xZ4.mk 2 0 0 [])
def xZd (N : Nat) (n : Int) (kind : Int) (text : List UInt8) (v : xZ4) (y : List UInt8) (y2 : Int) (xs : List xZ0) : Option (List UInt8 × Int × List xZ0) :=
  gd (Nat.ble ((List.length xs + 1) * 72) 140737488355328) (
  gd (i64b (y2 + n)) (
  some (y, (y2 + n), (xs ++ [(xZ0.mk kind y2 text v)]))))
def xZ26 (N : Nat) (s : List UInt8) : Option Bool :=
  bif (s == [119, 105, 116, 104, 105, 110]) then
   bif (s == [119, 105, 116, 104, 105, 110]) then
    some true
   else
    some false
  else
   bif (s == [98, 121]) then
    bif (s == [98, 121]) then
     some true
    else
     some false
   else
    bif (s == [97, 110, 100]) then
     bif (s == [97, 110, 100]) then
      some true
     else
      some false
    else
     bif (s == [111, 114]) then
      bif (s == [111, 114]) then
       some true
      else
       some false
     else
      bif (s == [110, 111, 116]) then
       bif (s == [110, 111, 116]) then
        some true
       else
        some false
      else
       bif (s == [97, 110, 121]) then
        bif (s == [97, 110, 121]) then
         some true
        else
         some false
       else
        bif (s == [110, 101, 120, 116]) then
         bif (s == [110, 101, 120, 116]) then
          some true
         else
          some false
        else
         bif (s == [115, 116, 114, 105, 99, 116]) then
          bif (s == [115, 116, 114, 105, 99, 116]) then
           some true
          else
           some false
         else
          bif (s == [116, 114, 117, 101]) then
           bif (s == [116, 114, 117, 101]) then
            some true
           else
            some false
          else
           bif (s == [102, 97, 108, 115, 101]) then
            some true
           else
            some false
def xZF (N : Nat) (y : List UInt8) (y2 : Int) (xs : List xZ0) : Option ((List UInt8 × Int × List xZ0) ⊕ (List UInt8 × Int × List xZ0) ⊕ (Int × Int × List UInt8 × Int × List xZ0)) :=
  (xZ24 N y y2 xs).bind fun leng =>
  gd (i64b (leng.2.2.1 + leng.1)) (
  gd (leB 0 leng.2.2.1) (
  gd (leB leng.2.2.1 (leng.2.2.1 + leng.1)) (
  gd (leB (leng.2.2.1 + leng.1) (List.length leng.2.1 : Int)) (
  bif ((List.drop (Int.toNat leng.2.2.1) (List.take (Int.toNat (leng.2.2.1 + leng.1)) leng.2.1)) == [116, 114, 117, 101]) then
   (xZ8t N ((List.drop (Int.toNat leng.2.2.1) (List.take (Int.toNat (leng.2.2.1 + leng.1)) leng.2.1)) == [116, 114, 117, 101])).bind fun offl =>
   (xZd N leng.1 3 [] offl leng.2.1 leng.2.2.1 leng.2.2.2).bind fun put =>
   some (Sum.inl (put.1, put.2.1, put.2.2))
  else
   bif ((List.drop (Int.toNat leng.2.2.1) (List.take (Int.toNat (leng.2.2.1 + leng.1)) leng.2.1)) == [102, 97, 108, 115, 101]) then
    (xZ8t N ((List.drop (Int.toNat leng.2.2.1) (List.take (Int.toNat (leng.2.2.1 + leng.1)) leng.2.1)) == [116, 114, 117, 101])).bind fun offl2 =>
    (xZd N leng.1 3 [] offl2 leng.2.1 leng.2.2.1 leng.2.2.2).bind fun put2 =>
    some (Sum.inl (put2.1, put2.2.1, put2.2.2))
   else
    (xZ26 N (List.drop (Int.toNat leng.2.2.1) (List.take (Int.toNat (leng.2.2.1 + leng.1)) leng.2.1))).bind fun rese =>
    bif rese then
     (xZd N leng.1 2 (List.drop (Int.toNat leng.2.2.1) (List.take (Int.toNat (leng.2.2.1 + leng.1)) leng.2.1)) (xZ4.mk 0 0 0 []) leng.2.1 leng.2.2.1 leng.2.2.2).bind fun put3 =>
     some (Sum.inl (put3.1, put3.2.1, put3.2.2))
    else
     bif (ltB 12 leng.1) then
      (xZ8 N 5 leng.2.1 leng.2.2.1 leng.2.2.2).bind fun x => Sum.elim
      (fun fail =>
       some (Sum.inr (Sum.inl (fail.1, fail.2.1, fail.2.2))))
      (fun fail2 =>
       some (Sum.inr (Sum.inr (fail2.1, fail2.2.1, fail2.2.2.1, fail2.2.2.2.1, fail2.2.2.2.2)))) x
     else
      (xZd N leng.1 1 (List.drop (Int.toNat leng.2.2.1) (List.take (Int.toNat (leng.2.2.1 + leng.1)) leng.2.1)) (xZ4.mk 0 0 0 []) leng.2.1 leng.2.2.1 leng.2.2.2).bind fun put4 =>
      some (Sum.inl (put4.1, put4.2.1, put4.2.2))))))
def xZ2y (N : Nat) (y : List UInt8) (y2 : Int) (xs : List xZ0) (next0 : Int → Option (Int × List UInt8 × Int × List xZ0)) (n : Int) : Option (Int × List UInt8 × Int × List xZ0) :=
  gd (i64b (y2 + n)) (
  bif (ltB (y2 + n) (List.length y : Int)) then
   gd (i64b (y2 + n)) (
   (ix y (y2 + n)).bind fun c =>
   (xZ34 N (UInt8.toNat c : Int)).bind fun digi =>
   bif digi then
    gd (i64b (n + 1)) (
    next0 (n + 1))
   else
    some (n, y, y2, xs))
  else
   some (n, y, y2, xs))
def xZ20 (N : Nat) (y : List UInt8) (y2 : Int) (xs : List xZ0) : Option (Int × List UInt8 × Int × List xZ0) :=
  lp1 (xZ2y N y y2 xs) N 0
def xZ56 (N : Nat) (n : Int) : Option xZ4 :=
  some (xZ4.mk 1 (max (-4611686018427387904) (min n 4611686018427387904)) 0 [])
def xZ11 (N : Nat) (n : Int) (x : Int) (y3 : List UInt8) (y4 : Int) (ys : List xZ0) (next0 : Int → Int → Option ((List UInt8 × Int × List xZ0) ⊕ (Int × Int × List UInt8 × Int × List xZ0) ⊕ (List UInt8 × Int × List xZ0))) (v : Int) (x2 : Int) : Option ((List UInt8 × Int × List xZ0) ⊕ (Int × Int × List UInt8 × Int × List xZ0) ⊕ (List UInt8 × Int × List xZ0)) :=
  bif (ltB x2 x) then
   gd (i64b (y4 + x2)) (
   (ix y3 (y4 + x2)).bind fun c2 =>
   gd (i64b (4611686018427387904 - (IntKind.i64.wrap (IntKind.u8.wrap ((UInt8.toNat c2 : Int) - 48))))) (
   bif (ltB (IntKind.i64.wrap (Int.tdiv (4611686018427387904 - (IntKind.i64.wrap (IntKind.u8.wrap ((UInt8.toNat c2 : Int) - 48)))) 10)) v) then
    (xZ8 N 8 y3 y4 ys).bind fun x => Sum.elim
    (fun fail3 =>
     some (Sum.inl (fail3.1, fail3.2.1, fail3.2.2)))
    (fun fail4 =>
     some (Sum.inr (Sum.inl (fail4.1, fail4.2.1, fail4.2.2.1, fail4.2.2.2.1, fail4.2.2.2.2)))) x
   else
    gd (i64b (v * 10)) (
    gd (i64b ((v * 10) + (IntKind.i64.wrap (IntKind.u8.wrap ((UInt8.toNat c2 : Int) - 48))))) (
    gd (i64b (x2 + 1)) (
    next0 ((v * 10) + (IntKind.i64.wrap (IntKind.u8.wrap ((UInt8.toNat c2 : Int) - 48)))) (x2 + 1))))))
  else
   (xZ56 N v).bind fun ofin =>
   (xZd N n 3 [] ofin y3 y4 ys).bind fun put =>
   some (Sum.inr (Sum.inr (put.1, put.2.1, put.2.2)))
def xZy (N : Nat) (y : List UInt8) (y2 : Int) (xs : List xZ0) : Option ((List UInt8 × Int × List xZ0) ⊕ (Int × Int × List UInt8 × Int × List xZ0) ⊕ (List UInt8 × Int × List xZ0)) :=
  (xZ20 N y y2 xs).bind fun leng =>
  bif (ltB 1 leng.1) then
   (ix leng.2.1 leng.2.2.1).bind fun c =>
   bif ((UInt8.toNat c : Int) == 48) then
    (xZ8 N 4 leng.2.1 leng.2.2.1 leng.2.2.2).bind fun x => Sum.elim
    (fun fail =>
     some (Sum.inl (fail.1, fail.2.1, fail.2.2)))
    (fun fail2 =>
     some (Sum.inr (Sum.inl (fail2.1, fail2.2.1, fail2.2.2.1, fail2.2.2.2.1, fail2.2.2.2.2)))) x
   else
    lp2 (xZ11 N leng.1 leng.1 leng.2.1 leng.2.2.1 leng.2.2.2) N 0 0
  else
   lp2 (xZ11 N leng.1 leng.1 leng.2.1 leng.2.2.1 leng.2.2.2) N 0 0
def xZ2q (N : Nat) (s : List UInt8) (c : Int) : Option Int :=
  some (Lib.indexByte s (UInt8.ofNat (Int.toNat c)))
def xZ1r (N : Nat) (s : List UInt8) (c : Int) : Option Int :=
  (xZ2q N s c).bind fun inde =>
  some inde
def xZ4R (N : Nat) (c : Int) : Option Int :=
  (xZ1r N [48, 49, 50, 51, 52, 53, 54, 55, 56, 57, 97, 98, 99, 100, 101, 102] c).bind fun inde =>
  some inde
def xZdd (N : Nat) (u : Int) : Option Nat :=
  some (Int.toNat u)
def xZ4X (N : Nat) (u : Int) : Option Int :=
  (xZdd N u).bind fun of =>
  bif (fcmpB .neq .f64 of of) then
   some 9221120237041090560
  else
   some u
def xZ85 (N : Nat) (bits : Int) : Option xZ4 :=
  (xZ4X N bits).bind fun clea =>
  some (xZ4.mk 3 0 clea [])
def xZ2v (N : Nat) (y : List UInt8) (y2 : Int) (xs : List xZ0) (next0 : Int → Int → Option ((List UInt8 × Int × List xZ0) ⊕ (Int × Int × List UInt8 × Int × List xZ0) ⊕ (List UInt8 × Int × List xZ0))) (u : Int) (x : Int) : Option ((List UInt8 × Int × List xZ0) ⊕ (Int × Int × List UInt8 × Int × List xZ0) ⊕ (List UInt8 × Int × List xZ0)) :=
  bif (ltB x 16) then
   gd (i64b (y2 + 1)) (
   gd (i64b ((y2 + 1) + x)) (
   (ix y ((y2 + 1) + x)).bind fun c =>
   (xZ4R N (UInt8.toNat c : Int)).bind fun base =>
   bif (ltB base 0) then
    (xZ8 N 4 y y2 xs).bind fun x => Sum.elim
    (fun fail3 =>
     some (Sum.inl (fail3.1, fail3.2.1, fail3.2.2)))
    (fun fail4 =>
     some (Sum.inr (Sum.inl (fail4.1, fail4.2.1, fail4.2.2.1, fail4.2.2.2.1, fail4.2.2.2.2)))) x
   else
    gd (i64b (x + 1)) (
    next0 (bwO .u64 (IntKind.u64.wrap (u * 2 ^ 4)) (IntKind.u64.wrap base)) (x + 1))))
  else
   (xZ4X N u).bind fun clea =>
   bif (clea != u) then
    (xZ8 N 4 y y2 xs).bind fun x => Sum.elim
    (fun fail5 =>
     some (Sum.inl (fail5.1, fail5.2.1, fail5.2.2)))
    (fun fail6 =>
     some (Sum.inr (Sum.inl (fail6.1, fail6.2.1, fail6.2.2.1, fail6.2.2.2.1, fail6.2.2.2.2)))) x
   else
    (xZ85 N u).bind fun ofre =>
    (xZd N 17 3 [] ofre y y2 xs).bind fun put =>
    some (Sum.inr (Sum.inr (put.1, put.2.1, put.2.2)))
def xZw (N : Nat) (y : List UInt8) (y2 : Int) (xs : List xZ0) : Option ((List UInt8 × Int × List xZ0) ⊕ (Int × Int × List UInt8 × Int × List xZ0) ⊕ (List UInt8 × Int × List xZ0)) :=
  gd (i64b ((List.length y : Int) - y2)) (
  bif (leB ((List.length y : Int) - y2) 16) then
   (xZ8 N 4 y y2 xs).bind fun x => Sum.elim
   (fun fail =>
    some (Sum.inl (fail.1, fail.2.1, fail.2.2)))
   (fun fail2 =>
    some (Sum.inr (Sum.inl (fail2.1, fail2.2.1, fail2.2.2.1, fail2.2.2.2.1, fail2.2.2.2.2)))) x
  else
   lp2 (xZ2v N y y2 xs) N 0 0)
def xZ1W (N : Nat) (vat : Int) (y : List UInt8) (y2 : Int) (xs : List xZ0) : Option (Int × Bool × List UInt8 × Int × List xZ0) :=
  gd (i64b ((List.length y : Int) - vat)) (
  bif (ltB ((List.length y : Int) - vat) 2) then
   some (0, false, y, y2, xs)
  else
   (ix y vat).bind fun c =>
   (xZ4R N (UInt8.toNat c : Int)).bind fun base =>
   gd (i64b (vat + 1)) (
   (ix y (vat + 1)).bind fun c2 =>
   (xZ4R N (UInt8.toNat c2 : Int)).bind fun base2 =>
   bif (leB 0 base) then
    some ((IntKind.u8.wrap (bwO .i64 (IntKind.i64.wrap (base * 2 ^ 4)) (bwA .i64 base2 15))), (leB 0 base2), y, y2, xs)
   else
    some ((IntKind.u8.wrap (bwO .i64 (IntKind.i64.wrap (base * 2 ^ 4)) (bwA .i64 base2 15))), false, y, y2, xs)))
def xZ4s (N : Nat) (s : List UInt8) : Option xZ4 :=
  bif (ltB 24 (List.length s : Int)) then
   gd (leB 24 (List.length s : Int)) (
   some (xZ4.mk 4 0 0 (List.take 24 s)))
  else
   some (xZ4.mk 4 0 0 s)
def xZ2w (N : Nat) (next0 : Int → (List UInt8) → Int → (List xZ0) → (List Int) → Option ((List UInt8 × Int × List xZ0) ⊕ (Int × Int × List UInt8 × Int × List xZ0) ⊕ (List UInt8 × Int × List xZ0))) (i : Int) (y3 : List UInt8) (y4 : Int) (ys : List xZ0) (ys2 : List Int) : Option ((List UInt8 × Int × List xZ0) ⊕ (Int × Int × List UInt8 × Int × List xZ0) ⊕ (List UInt8 × Int × List xZ0)) :=
  bif (ltB i (List.length y3 : Int)) then
   (ix y3 i).bind fun c =>
   bif (ltB (UInt8.toNat c : Int) 32) then
    (xZU N 10 i).bind fun x => Sum.elim
    (fun new =>
     some (Sum.inl (y3, y4, ys)))
    (fun new2 =>
     some (Sum.inr (Sum.inl (new2.1, new2.2, y3, y4, ys)))) x
   else
    bif (ltB 126 (UInt8.toNat c : Int)) then
     (xZU N 10 i).bind fun x => Sum.elim
     (fun new3 =>
      some (Sum.inl (y3, y4, ys)))
     (fun new4 =>
      some (Sum.inr (Sum.inl (new4.1, new4.2, y3, y4, ys)))) x
    else
     bif ((UInt8.toNat c : Int) == 92) then
      gd (i64b (i + 1)) (
      (xZ1W N (i + 1) y3 y4 ys).bind fun esca =>
      bif (!esca.2.1) then
       (xZU N 4 i).bind fun x => Sum.elim
       (fun new5 =>
        some (Sum.inl (esca.2.2.1, esca.2.2.2.1, esca.2.2.2.2)))
       (fun new6 =>
        some (Sum.inr (Sum.inl (new6.1, new6.2, esca.2.2.1, esca.2.2.2.1, esca.2.2.2.2)))) x
      else
       gd (Nat.ble ((List.length ys2 + 1) * 1) 140737488355328) (
       gd (i64b (i + 3)) (
       next0 (i + 3) esca.2.2.1 esca.2.2.2.1 esca.2.2.2.2 (ys2 ++ [esca.1]))))
     else
      bif ((UInt8.toNat c : Int) != 39) then
       gd (Nat.ble ((List.length ys2 + 1) * 1) 140737488355328) (
       gd (i64b (i + 1)) (
       next0 (i + 1) y3 y4 ys (ys2 ++ [(UInt8.toNat c : Int)])))
      else
       gd (i64b (i + 1)) (
       bif (ltB (i + 1) (List.length y3 : Int)) then
        gd (i64b (i + 1)) (
        (ix y3 (i + 1)).bind fun c2 =>
        bif ((UInt8.toNat c2 : Int) == 39) then
         gd (Nat.ble ((List.length ys2 + 1) * 1) 140737488355328) (
         gd (i64b (i + 2)) (
         next0 (i + 2) y3 y4 ys (ys2 ++ [(UInt8.toNat c : Int)])))
        else
         bif (ltB 24 (List.length ys2 : Int)) then
          (xZ8 N 5 y3 y4 ys).bind fun x => Sum.elim
          (fun fail =>
           some (Sum.inl (fail.1, fail.2.1, fail.2.2)))
          (fun fail2 =>
           some (Sum.inr (Sum.inl (fail2.1, fail2.2.1, fail2.2.2.1, fail2.2.2.2.1, fail2.2.2.2.2)))) x
         else
          gd (i64b (i + 1)) (
          gd (i64b ((i + 1) - y4)) (
          (xZ4s N (byS ys2)).bind fun ofte =>
          (xZd N ((i + 1) - y4) 3 [] ofte y3 y4 ys).bind fun put =>
          some (Sum.inr (Sum.inr (put.1, put.2.1, put.2.2))))))
       else
        bif (ltB 24 (List.length ys2 : Int)) then
         (xZ8 N 5 y3 y4 ys).bind fun x => Sum.elim
         (fun fail3 =>
          some (Sum.inl (fail3.1, fail3.2.1, fail3.2.2)))
         (fun fail4 =>
          some (Sum.inr (Sum.inl (fail4.1, fail4.2.1, fail4.2.2.1, fail4.2.2.2.1, fail4.2.2.2.2)))) x
        else
         gd (i64b (i + 1)) (
         gd (i64b ((i + 1) - y4)) (
         (xZ4s N (byS ys2)).bind fun ofte2 =>
         (xZd N ((i + 1) - y4) 3 [] ofte2 y3 y4 ys).bind fun put2 =>
         some (Sum.inr (Sum.inr (put2.1, put2.2.1, put2.2.2))))))
  else
   (xZ8 N 3 y3 y4 ys).bind fun x => Sum.elim
   (fun fail5 =>
    some (Sum.inl (fail5.1, fail5.2.1, fail5.2.2)))
   (fun fail6 =>
    some (Sum.inr (Sum.inl (fail6.1, fail6.2.1, fail6.2.2.1, fail6.2.2.2.1, fail6.2.2.2.2)))) x
def xZx (N : Nat) (y : List UInt8) (y2 : Int) (xs : List xZ0) : Option ((List UInt8 × Int × List xZ0) ⊕ (Int × Int × List UInt8 × Int × List xZ0) ⊕ (List UInt8 × Int × List xZ0)) :=
  gd (i64b (y2 + 1)) (
  lp5 (xZ2w N) N (y2 + 1) y y2 xs [])
def xZH (N : Nat) (y : List UInt8) (y2 : Int) (xs : List xZ0) : Option (List UInt8 × Int × List xZ0) :=
  (ix y y2).bind fun c =>
  (xZ1r N [33, 60, 62] (UInt8.toNat c : Int)).bind fun inde =>
  bif (leB 0 inde) then
   gd (i64b (y2 + 1)) (
   bif (ltB (y2 + 1) (List.length y : Int)) then
    gd (i64b (y2 + 1)) (
    (ix y (y2 + 1)).bind fun c2 =>
    bif ((UInt8.toNat c2 : Int) == 61) then
     gd (i64b (y2 + 2)) (
     gd (leB 0 y2) (
     gd (leB y2 (y2 + 2)) (
     gd (leB (y2 + 2) (List.length y : Int)) (
     (xZd N 2 4 (List.drop (Int.toNat y2) (List.take (Int.toNat (y2 + 2)) y)) (xZ4.mk 0 0 0 []) y y2 xs).bind fun put =>
     some (put.1, put.2.1, put.2.2)))))
    else
     gd (i64b (y2 + 1)) (
     gd (leB 0 y2) (
     gd (leB y2 (y2 + 1)) (
     gd (leB (y2 + 1) (List.length y : Int)) (
     (xZd N 1 4 (List.drop (Int.toNat y2) (List.take (Int.toNat (y2 + 1)) y)) (xZ4.mk 0 0 0 []) y y2 xs).bind fun put2 =>
     some (put2.1, put2.2.1, put2.2.2))))))
   else
    gd (i64b (y2 + 1)) (
    gd (leB 0 y2) (
    gd (leB y2 (y2 + 1)) (
    gd (leB (y2 + 1) (List.length y : Int)) (
    (xZd N 1 4 (List.drop (Int.toNat y2) (List.take (Int.toNat (y2 + 1)) y)) (xZ4.mk 0 0 0 []) y y2 xs).bind fun put3 =>
    some (put3.1, put3.2.1, put3.2.2))))))
  else
   gd (i64b (y2 + 1)) (
   gd (leB 0 y2) (
   gd (leB y2 (y2 + 1)) (
   gd (leB (y2 + 1) (List.length y : Int)) (
   (xZd N 1 4 (List.drop (Int.toNat y2) (List.take (Int.toNat (y2 + 1)) y)) (xZ4.mk 0 0 0 []) y y2 xs).bind fun put4 =>
   some (put4.1, put4.2.1, put4.2.2)))))
def xZ2b (N : Nat) (y : List UInt8) (y2 : Int) (xs : List xZ0) : Option ((List UInt8 × Int × List xZ0) ⊕ (Int × Int × List UInt8 × Int × List xZ0) ⊕ (List UInt8 × Int × List xZ0)) :=
  (ix y y2).bind fun c =>
  (xZ3f N (UInt8.toNat c : Int)).bind fun smal =>
  bif smal then
   bif ((List.length xs : Int) == 200) then
    (xZ8 N 7 y y2 xs).bind fun x => Sum.elim
    (fun fail =>
     some (Sum.inl (fail.1, fail.2.1, fail.2.2)))
    (fun fail2 =>
     some (Sum.inr (Sum.inl (fail2.1, fail2.2.1, fail2.2.2.1, fail2.2.2.2.1, fail2.2.2.2.2)))) x
   else
    (xZ3f N (UInt8.toNat c : Int)).bind fun smal2 =>
    bif smal2 then
     (xZF N y y2 xs).bind fun x => Sum.elim
     (fun word =>
      some (Sum.inr (Sum.inr (word.1, word.2.1, word.2.2))))
     (Sum.elim
     (fun word2 =>
      some (Sum.inl (word2.1, word2.2.1, word2.2.2)))
     (fun word3 =>
      some (Sum.inr (Sum.inl (word3.1, word3.2.1, word3.2.2.1, word3.2.2.2.1, word3.2.2.2.2))))) x
    else
     (xZ34 N (UInt8.toNat c : Int)).bind fun digi =>
     bif digi then
      (xZy N y y2 xs).bind fun x => Sum.elim
      (fun numb =>
       some (Sum.inl (numb.1, numb.2.1, numb.2.2)))
      (Sum.elim
      (fun numb2 =>
       some (Sum.inr (Sum.inl (numb2.1, numb2.2.1, numb2.2.2.1, numb2.2.2.2.1, numb2.2.2.2.2))))
      (fun numb3 =>
       some (Sum.inr (Sum.inr (numb3.1, numb3.2.1, numb3.2.2))))) x
     else
      bif ((UInt8.toNat c : Int) == 35) then
       (xZw N y y2 xs).bind fun x => Sum.elim
       (fun doub =>
        some (Sum.inl (doub.1, doub.2.1, doub.2.2)))
       (Sum.elim
       (fun doub2 =>
        some (Sum.inr (Sum.inl (doub2.1, doub2.2.1, doub2.2.2.1, doub2.2.2.2.1, doub2.2.2.2.2))))
       (fun doub3 =>
        some (Sum.inr (Sum.inr (doub3.1, doub3.2.1, doub3.2.2))))) x
      else
       bif ((UInt8.toNat c : Int) == 39) then
        (xZx N y y2 xs).bind fun x => Sum.elim
        (fun quot =>
         some (Sum.inl (quot.1, quot.2.1, quot.2.2)))
        (Sum.elim
        (fun quot2 =>
         some (Sum.inr (Sum.inl (quot2.1, quot2.2.1, quot2.2.2.1, quot2.2.2.2.1, quot2.2.2.2.2))))
        (fun quot3 =>
         some (Sum.inr (Sum.inr (quot3.1, quot3.2.1, quot3.2.2))))) x
       else
        (xZH N y y2 xs).bind fun sign =>
        some (Sum.inr (Sum.inr (sign.1, sign.2.1, sign.2.2)))
  else
   (xZ34 N (UInt8.toNat c : Int)).bind fun digi2 =>
   bif digi2 then
    bif ((List.length xs : Int) == 200) then
     (xZ8 N 7 y y2 xs).bind fun x => Sum.elim
     (fun fail3 =>
      some (Sum.inl (fail3.1, fail3.2.1, fail3.2.2)))
     (fun fail4 =>
      some (Sum.inr (Sum.inl (fail4.1, fail4.2.1, fail4.2.2.1, fail4.2.2.2.1, fail4.2.2.2.2)))) x
    else
     (xZ3f N (UInt8.toNat c : Int)).bind fun smal3 =>
     bif smal3 then
      (xZF N y y2 xs).bind fun x => Sum.elim
      (fun word4 =>
       some (Sum.inr (Sum.inr (word4.1, word4.2.1, word4.2.2))))
      (Sum.elim
      (fun word5 =>
       some (Sum.inl (word5.1, word5.2.1, word5.2.2)))
      (fun word6 =>
       some (Sum.inr (Sum.inl (word6.1, word6.2.1, word6.2.2.1, word6.2.2.2.1, word6.2.2.2.2))))) x
     else
      (xZ34 N (UInt8.toNat c : Int)).bind fun digi3 =>
      bif digi3 then
       (xZy N y y2 xs).bind fun x => Sum.elim
       (fun numb4 =>
        some (Sum.inl (numb4.1, numb4.2.1, numb4.2.2)))
       (Sum.elim
       (fun numb5 =>
        some (Sum.inr (Sum.inl (numb5.1, numb5.2.1, numb5.2.2.1, numb5.2.2.2.1, numb5.2.2.2.2))))
       (fun numb6 =>
        some (Sum.inr (Sum.inr (numb6.1, numb6.2.1, numb6.2.2))))) x
      else
       bif ((UInt8.toNat c : Int) == 35) then
        (xZw N y y2 xs).bind fun x => Sum.elim
        (fun doub4 =>
         some (Sum.inl (doub4.1, doub4.2.1, doub4.2.2)))
        (Sum.elim
        (fun doub5 =>
         some (Sum.inr (Sum.inl (doub5.1, doub5.2.1, doub5.2.2.1, doub5.2.2.2.1, doub5.2.2.2.2))))
        (fun doub6 =>
         some (Sum.inr (Sum.inr (doub6.1, doub6.2.1, doub6.2.2))))) x
       else
        bif ((UInt8.toNat c : Int) == 39) then
         (xZx N y y2 xs).bind fun x => Sum.elim
         (fun quot4 =>
          some (Sum.inl (quot4.1, quot4.2.1, quot4.2.2)))
         (Sum.elim
         (fun quot5 =>
          some (Sum.inr (Sum.inl (quot5.1, quot5.2.1, quot5.2.2.1, quot5.2.2.2.1, quot5.2.2.2.2))))
         (fun quot6 =>
          some (Sum.inr (Sum.inr (quot6.1, quot6.2.1, quot6.2.2))))) x
        else
         (xZH N y y2 xs).bind fun sign2 =>
         some (Sum.inr (Sum.inr (sign2.1, sign2.2.1, sign2.2.2)))
   else
    bif ((UInt8.toNat c : Int) == 35) then
     bif ((List.length xs : Int) == 200) then
      (xZ8 N 7 y y2 xs).bind fun x => Sum.elim
      (fun fail5 =>
       some (Sum.inl (fail5.1, fail5.2.1, fail5.2.2)))
      (fun fail6 =>
       some (Sum.inr (Sum.inl (fail6.1, fail6.2.1, fail6.2.2.1, fail6.2.2.2.1, fail6.2.2.2.2)))) x
     else
      (xZ3f N (UInt8.toNat c : Int)).bind fun smal4 =>
      bif smal4 then
       (xZF N y y2 xs).bind fun x => Sum.elim
       (fun word7 =>
        some (Sum.inr (Sum.inr (word7.1, word7.2.1, word7.2.2))))
       (Sum.elim
       (fun word8 =>
        some (Sum.inl (word8.1, word8.2.1, word8.2.2)))
       (fun word9 =>
        some (Sum.inr (Sum.inl (word9.1, word9.2.1, word9.2.2.1, word9.2.2.2.1, word9.2.2.2.2))))) x
      else
       (xZ34 N (UInt8.toNat c : Int)).bind fun digi4 =>
       bif digi4 then
        (xZy N y y2 xs).bind fun x => Sum.elim
        (fun numb7 =>
         some (Sum.inl (numb7.1, numb7.2.1, numb7.2.2)))
        (Sum.elim
        (fun numb8 =>
         some (Sum.inr (Sum.inl (numb8.1, numb8.2.1, numb8.2.2.1, numb8.2.2.2.1, numb8.2.2.2.2))))
        (fun numb9 =>
         some (Sum.inr (Sum.inr (numb9.1, numb9.2.1, numb9.2.2))))) x
       else
        bif ((UInt8.toNat c : Int) == 35) then
         (xZw N y y2 xs).bind fun x => Sum.elim
         (fun doub7 =>
          some (Sum.inl (doub7.1, doub7.2.1, doub7.2.2)))
         (Sum.elim
         (fun doub8 =>
          some (Sum.inr (Sum.inl (doub8.1, doub8.2.1, doub8.2.2.1, doub8.2.2.2.1, doub8.2.2.2.2))))
         (fun doub9 =>
          some (Sum.inr (Sum.inr (doub9.1, doub9.2.1, doub9.2.2))))) x
        else
         bif ((UInt8.toNat c : Int) == 39) then
          (xZx N y y2 xs).bind fun x => Sum.elim
          (fun quot7 =>
           some (Sum.inl (quot7.1, quot7.2.1, quot7.2.2)))
          (Sum.elim
          (fun quot8 =>
           some (Sum.inr (Sum.inl (quot8.1, quot8.2.1, quot8.2.2.1, quot8.2.2.2.1, quot8.2.2.2.2))))
          (fun quot9 =>
           some (Sum.inr (Sum.inr (quot9.1, quot9.2.1, quot9.2.2))))) x
         else
          (xZH N y y2 xs).bind fun sign3 =>
          some (Sum.inr (Sum.inr (sign3.1, sign3.2.1, sign3.2.2)))
    else
     bif ((UInt8.toNat c : Int) == 39) then
      bif ((List.length xs : Int) == 200) then
       (xZ8 N 7 y y2 xs).bind fun x => Sum.elim
       (fun fail7 =>
        some (Sum.inl (fail7.1, fail7.2.1, fail7.2.2)))
       (fun fail8 =>
        some (Sum.inr (Sum.inl (fail8.1, fail8.2.1, fail8.2.2.1, fail8.2.2.2.1, fail8.2.2.2.2)))) x
      else
       (xZ3f N (UInt8.toNat c : Int)).bind fun smal5 =>
       bif smal5 then
        (xZF N y y2 xs).bind fun x => Sum.elim
        (fun word10 =>
         some (Sum.inr (Sum.inr (word10.1, word10.2.1, word10.2.2))))
        (Sum.elim
        (fun word11 =>
         some (Sum.inl (word11.1, word11.2.1, word11.2.2)))
        (fun word12 =>
         some (Sum.inr (Sum.inl (word12.1, word12.2.1, word12.2.2.1, word12.2.2.2.1, word12.2.2.2.2))))) x
       else
        (xZ34 N (UInt8.toNat c : Int)).bind fun digi5 =>
        bif digi5 then
         (xZy N y y2 xs).bind fun x => Sum.elim
         (fun numb10 =>
          some (Sum.inl (numb10.1, numb10.2.1, numb10.2.2)))
         (Sum.elim
         (fun numb11 =>
          some (Sum.inr (Sum.inl (numb11.1, numb11.2.1, numb11.2.2.1, numb11.2.2.2.1, numb11.2.2.2.2))))
         (fun numb12 =>
          some (Sum.inr (Sum.inr (numb12.1, numb12.2.1, numb12.2.2))))) x
        else
         bif ((UInt8.toNat c : Int) == 35) then
          (xZw N y y2 xs).bind fun x => Sum.elim
          (fun doub10 =>
           some (Sum.inl (doub10.1, doub10.2.1, doub10.2.2)))
          (Sum.elim
          (fun doub11 =>
           some (Sum.inr (Sum.inl (doub11.1, doub11.2.1, doub11.2.2.1, doub11.2.2.2.1, doub11.2.2.2.2))))
          (fun doub12 =>
           some (Sum.inr (Sum.inr (doub12.1, doub12.2.1, doub12.2.2))))) x
         else
          bif ((UInt8.toNat c : Int) == 39) then
           (xZx N y y2 xs).bind fun x => Sum.elim
           (fun quot10 =>
            some (Sum.inl (quot10.1, quot10.2.1, quot10.2.2)))
           (Sum.elim
           (fun quot11 =>
            some (Sum.inr (Sum.inl (quot11.1, quot11.2.1, quot11.2.2.1, quot11.2.2.2.1, quot11.2.2.2.2))))
           (fun quot12 =>
            some (Sum.inr (Sum.inr (quot12.1, quot12.2.1, quot12.2.2))))) x
          else
           (xZH N y y2 xs).bind fun sign4 =>
           some (Sum.inr (Sum.inr (sign4.1, sign4.2.1, sign4.2.2)))
     else
      (xZ1r N [40, 41, 91, 93, 123, 125, 59, 124, 33, 58, 44, 46, 43, 42, 63, 45, 61, 60, 62] (UInt8.toNat c : Int)).bind fun inde =>
      bif (!(leB 0 inde)) then
       (xZ8 N 10 y y2 xs).bind fun x => Sum.elim
       (fun fail9 =>
        some (Sum.inl (fail9.1, fail9.2.1, fail9.2.2)))
       (fun fail10 =>
        some (Sum.inr (Sum.inl (fail10.1, fail10.2.1, fail10.2.2.1, fail10.2.2.2.1, fail10.2.2.2.2)))) x
      else
       bif ((List.length xs : Int) == 200) then
        (xZ8 N 7 y y2 xs).bind fun x => Sum.elim
        (fun fail11 =>
         some (Sum.inl (fail11.1, fail11.2.1, fail11.2.2)))
        (fun fail12 =>
         some (Sum.inr (Sum.inl (fail12.1, fail12.2.1, fail12.2.2.1, fail12.2.2.2.1, fail12.2.2.2.2)))) x
       else
        (xZ3f N (UInt8.toNat c : Int)).bind fun smal6 =>
        bif smal6 then
         (xZF N y y2 xs).bind fun x => Sum.elim
         (fun word13 =>
          some (Sum.inr (Sum.inr (word13.1, word13.2.1, word13.2.2))))
         (Sum.elim
         (fun word14 =>
          some (Sum.inl (word14.1, word14.2.1, word14.2.2)))
         (fun word15 =>
          some (Sum.inr (Sum.inl (word15.1, word15.2.1, word15.2.2.1, word15.2.2.2.1, word15.2.2.2.2))))) x
        else
         (xZ34 N (UInt8.toNat c : Int)).bind fun digi6 =>
         bif digi6 then
          (xZy N y y2 xs).bind fun x => Sum.elim
          (fun numb13 =>
           some (Sum.inl (numb13.1, numb13.2.1, numb13.2.2)))
          (Sum.elim
          (fun numb14 =>
           some (Sum.inr (Sum.inl (numb14.1, numb14.2.1, numb14.2.2.1, numb14.2.2.2.1, numb14.2.2.2.2))))
          (fun numb15 =>
           some (Sum.inr (Sum.inr (numb15.1, numb15.2.1, numb15.2.2))))) x
         else
          bif ((UInt8.toNat c : Int) == 35) then
           (xZw N y y2 xs).bind fun x => Sum.elim
           (fun doub13 =>
            some (Sum.inl (doub13.1, doub13.2.1, doub13.2.2)))
           (Sum.elim
           (fun doub14 =>
            some (Sum.inr (Sum.inl (doub14.1, doub14.2.1, doub14.2.2.1, doub14.2.2.2.1, doub14.2.2.2.2))))
           (fun doub15 =>
            some (Sum.inr (Sum.inr (doub15.1, doub15.2.1, doub15.2.2))))) x
          else
           bif ((UInt8.toNat c : Int) == 39) then
            (xZx N y y2 xs).bind fun x => Sum.elim
            (fun quot13 =>
             some (Sum.inl (quot13.1, quot13.2.1, quot13.2.2)))
            (Sum.elim
            (fun quot14 =>
             some (Sum.inr (Sum.inl (quot14.1, quot14.2.1, quot14.2.2.1, quot14.2.2.2.1, quot14.2.2.2.2))))
            (fun quot15 =>
             some (Sum.inr (Sum.inr (quot15.1, quot15.2.1, quot15.2.2))))) x
           else
            (xZH N y y2 xs).bind fun sign5 =>
            some (Sum.inr (Sum.inr (sign5.1, sign5.2.1, sign5.2.2)))
def xZa6 (N : Nat) (s : List UInt8) (next0 : (List UInt8) → Int → (List xZ0) → Option ((List xZ0) ⊕ (List xZ0 × Int × Int))) (y : List UInt8) (y2 : Int) (ys : List xZ0) : Option ((List xZ0) ⊕ (List xZ0 × Int × Int)) :=
  bif (ltB y2 (List.length s : Int)) then
   (ix s y2).bind fun c =>
   bif ((UInt8.toNat c : Int) == 32) then
    gd (i64b (y2 + 1)) (
    next0 y (y2 + 1) ys)
   else
    bif ((UInt8.toNat c : Int) == 9) then
     gd (i64b (y2 + 1)) (
     next0 y (y2 + 1) ys)
    else
     bif ((UInt8.toNat c : Int) == 10) then
      gd (i64b (y2 + 1)) (
      next0 y (y2 + 1) ys)
     else
      (xZ2b N y y2 ys).bind fun x => Sum.elim
      (fun toke =>
       next0 toke.1 toke.2.1 toke.2.2)
      (Sum.elim
      (fun toke2 =>
       some (Sum.inr ([], toke2.1, toke2.2.1)))
      (fun toke3 =>
       next0 toke3.1 toke3.2.1 toke3.2.2)) x
  else
   some (Sum.inl ys)
def xZaf (N : Nat) (s : List UInt8) : Option ((List xZ0) ⊕ (List xZ0 × Int × Int)) :=
  bif (ltB 600 (List.length s : Int)) then
   (xZU N 5 0).bind fun x => Sum.elim
   (fun new =>
    some (Sum.inl []))
   (fun new2 =>
    some (Sum.inr ([], new2.1, new2.2))) x
  else
   lp3 (xZa6 N s) N s 0 []
def xZq (N : Nat) (kind : Int) (text : List UInt8) (y : List xZ0) (y2 : Int) (y3 : Int) : Option (Bool × List xZ0 × Int × Int) :=
  bif (ltB y2 (List.length y : Int)) then
   (ix y y2).bind fun e =>
   bif (e.Kind == kind) then
    (ix y y2).bind fun e2 =>
    some ((e2.Text == text), y, y2, y3)
   else
    some (false, y, y2, y3)
  else
   some (false, y, y2, y3)
def xZa (N : Nat) (kind : Int) (text : List UInt8) (y : List xZ0) (y2 : Int) (y3 : Int) : Option (Bool × List xZ0 × Int × Int) :=
  (xZq N kind text y y2 y3).bind fun peek =>
  bif (!peek.1) then
   some (false, peek.2.1, peek.2.2.1, peek.2.2.2)
  else
   gd (i64b (peek.2.2.1 + 1)) (
   some (true, peek.2.1, (peek.2.2.1 + 1), peek.2.2.2))
def xZ3s (N : Nat) : Option Unit :=
  some ()
def xZ2g (N : Nat) (err : Int) (err2 : Int) : Option (Int × Int) :=
  some (err, err2)
def xZe (N : Nat) (e : Int) (y : List xZ0) (y2 : Int) (y3 : Int) : Option ((List xZ0 × Int × Int) ⊕ (Int × Int × List xZ0 × Int × Int)) :=
  bif (ltB y2 (List.length y : Int)) then
   (ix y y2).bind fun e2 =>
   (xZU N e e2.At).bind fun x => Sum.elim
   (fun new =>
    (xZ3s N).bind fun stop =>
    some (Sum.inl (y, y2, y3)))
   (fun new2 =>
    (xZ2g N new2.1 new2.2).bind fun stop2 =>
    some (Sum.inr (stop2.1, stop2.2, y, y2, y3))) x
  else
   (xZU N e y3).bind fun x => Sum.elim
   (fun new3 =>
    (xZ3s N).bind fun stop3 =>
    some (Sum.inl (y, y2, y3)))
   (fun new4 =>
    (xZ2g N new4.1 new4.2).bind fun stop4 =>
    some (Sum.inr (stop4.1, stop4.2, y, y2, y3))) x
def xZT (N : Nat) (y : List xZ0) (y2 : Int) (y3 : Int) : Option ((List UInt8 × List xZ0 × Int × Int) ⊕ (Int × Int × List xZ0 × Int × Int)) :=
  bif (leB (List.length y : Int) y2) then
   (xZe N 4 y y2 y3).bind fun x => Sum.elim
   (fun fail =>
    gd (i64b (fail.2.1 + 1)) (
    gd (i64b ((fail.2.1 + 1) - 1)) (
    (ix fail.1 ((fail.2.1 + 1) - 1)).bind fun e =>
    some (Sum.inl (e.Text, fail.1, (fail.2.1 + 1), fail.2.2)))))
   (fun fail2 =>
    some (Sum.inr (fail2.1, fail2.2.1, fail2.2.2.1, fail2.2.2.2.1, fail2.2.2.2.2))) x
  else
   (ix y y2).bind fun e2 =>
   bif (e2.Kind != 1) then
    (xZe N 4 y y2 y3).bind fun x => Sum.elim
    (fun fail3 =>
     gd (i64b (fail3.2.1 + 1)) (
     gd (i64b ((fail3.2.1 + 1) - 1)) (
     (ix fail3.1 ((fail3.2.1 + 1) - 1)).bind fun e3 =>
     some (Sum.inl (e3.Text, fail3.1, (fail3.2.1 + 1), fail3.2.2)))))
    (fun fail4 =>
     some (Sum.inr (fail4.1, fail4.2.1, fail4.2.2.1, fail4.2.2.2.1, fail4.2.2.2.2))) x
   else
    gd (i64b (y2 + 1)) (
    gd (i64b ((y2 + 1) - 1)) (
    (ix y ((y2 + 1) - 1)).bind fun e4 =>
    some (Sum.inl (e4.Text, y, (y2 + 1), y3))))
def xZh (N : Nat) (kind : Int) (text : List UInt8) (y : List xZ0) (y2 : Int) (y3 : Int) : Option ((List xZ0 × Int × Int) ⊕ (Int × Int × List xZ0 × Int × Int)) :=
  (xZa N kind text y y2 y3).bind fun eat =>
  bif (!eat.1) then
   (xZe N 4 eat.2.1 eat.2.2.1 eat.2.2.2).bind fun x => Sum.elim
   (fun fail =>
    some (Sum.inl (fail.1, fail.2.1, fail.2.2)))
   (fun fail2 =>
    some (Sum.inr (fail2.1, fail2.2.1, fail2.2.2.1, fail2.2.2.2.1, fail2.2.2.2.2))) x
  else
   some (Sum.inl (eat.2.1, eat.2.2.1, eat.2.2.2))
def xZn (N : Nat) (y : List xZ0) (y2 : Int) (y3 : Int) : Option (xZ0 × List xZ0 × Int × Int) :=
  bif (ltB y2 (List.length y : Int)) then
   (ix y y2).bind fun e =>
   some (e, y, y2, y3)
  else
   some ((xZ0.mk 0 0 [] (xZ4.mk 0 0 0 [])), y, y2, y3)
def xZi (N : Nat) (y : List xZ0) (y2 : Int) (y3 : Int) : Option (Int × List xZ0 × Int × Int) :=
  bif (ltB y2 (List.length y : Int)) then
   (ix y y2).bind fun e =>
   some (e.At, y, y2, y3)
  else
   some (y3, y, y2, y3)
def xZk (N : Nat) (e : Int) (y : List xZ0) (y2 : Int) (y3 : Int) : Option (Int × Int × List xZ0 × Int × Int) :=
  (xZi N y y2 y3).bind fun plac =>
  some (e, plac.1, plac.2.1, plac.2.2.1, plac.2.2.2)
def xZ1k (N : Nat) (deep : Int) (y : List xZ0) (y2 : Int) (y3 : Int) : Option ((Int × Int × List xZ0 × Int × Int) ⊕ (List xZ0 × Int × Int)) :=
  (xZn N y y2 y3).bind fun vnext =>
  bif (vnext.1.Kind == 2) then
   bif (vnext.1.Text == [110, 111, 116]) then
    bif (leB 16 deep) then
     (xZk N 15 vnext.2.1 vnext.2.2.1 vnext.2.2.2).bind fun fail =>
     some (Sum.inl (fail.1, fail.2.1, fail.2.2.1, fail.2.2.2.1, fail.2.2.2.2))
    else
     some (Sum.inr (vnext.2.1, vnext.2.2.1, vnext.2.2.2))
   else
    bif (vnext.1.Kind == 4) then
     bif (vnext.1.Text == [40]) then
      bif (leB 16 deep) then
       (xZk N 15 vnext.2.1 vnext.2.2.1 vnext.2.2.2).bind fun fail2 =>
       some (Sum.inl (fail2.1, fail2.2.1, fail2.2.2.1, fail2.2.2.2.1, fail2.2.2.2.2))
      else
       some (Sum.inr (vnext.2.1, vnext.2.2.1, vnext.2.2.2))
     else
      some (Sum.inr (vnext.2.1, vnext.2.2.1, vnext.2.2.2))
    else
     some (Sum.inr (vnext.2.1, vnext.2.2.1, vnext.2.2.2))
  else
   bif (vnext.1.Kind == 4) then
    bif (vnext.1.Text == [40]) then
     bif (leB 16 deep) then
      (xZk N 15 vnext.2.1 vnext.2.2.1 vnext.2.2.2).bind fun fail3 =>
      some (Sum.inl (fail3.1, fail3.2.1, fail3.2.2.1, fail3.2.2.2.1, fail3.2.2.2.2))
     else
      some (Sum.inr (vnext.2.1, vnext.2.2.1, vnext.2.2.2))
    else
     some (Sum.inr (vnext.2.1, vnext.2.2.1, vnext.2.2.2))
   else
    some (Sum.inr (vnext.2.1, vnext.2.2.1, vnext.2.2.2))
def xZf (N : Nat) (kind : Int) (text : List UInt8) (y : List xZ0) (y2 : Int) (y3 : Int) : Option (Bool × List xZ0 × Int × Int) :=
  (xZn N y y2 y3).bind fun vnext =>
  bif (vnext.1.Kind != kind) then
   some (false, vnext.2.1, vnext.2.2.1, vnext.2.2.2)
  else
   bif (!(vnext.1.Text == text)) then
    some (false, vnext.2.1, vnext.2.2.1, vnext.2.2.2)
   else
    gd (i64b (vnext.2.2.1 + 1)) (
    some (true, vnext.2.1, (vnext.2.2.1 + 1), vnext.2.2.2))
def xZ13 (N : Nat) (n : Int) : Option (List xZ1) := gd (leB 0 n) (gd (leB (80 * n) 140737488355328) (some []))
def xZ1J (N : Nat) (x4 : List (List xZ1)) (x5 : Int) (next2 : Int → (List xZ1) → Option ((List UInt8) ⊕ (List xZ1))) (x6 : Int) (ys : List xZ1) : Option ((List UInt8) ⊕ (List xZ1)) :=
  bif (ltB x6 x5) then
   (ix x4 x6).bind fun e2 =>
   gd (Nat.ble ((List.length ys + List.length e2) * 80) 140737488355328) (
   gd (i64b (x6 + 1)) (
   next2 (x6 + 1) (ys ++ e2)))
  else
   some (Sum.inr ys)
def xZ1D (N : Nat) (slices : List (List xZ1)) (x : List (List xZ1)) (x2 : Int) (next0 : Int → Int → Option ((List UInt8) ⊕ (List xZ1))) (size : Int) (x3 : Int) : Option ((List UInt8) ⊕ (List xZ1)) :=
  bif (ltB x3 x2) then
   (ix x x3).bind fun e =>
   gd (i64b (size + (List.length e : Int))) (
   bif (ltB (size + (List.length e : Int)) 0) then
    some (Sum.inl [108, 101, 110, 32, 111, 117, 116, 32, 111, 102, 32, 114, 97, 110, 103, 101])
   else
    gd (i64b (x3 + 1)) (
    next0 (size + (List.length e : Int)) (x3 + 1)))
  else
   (xZ13 N size).bind fun node =>
   lp2 (xZ1J N slices (List.length slices : Int)) N 0 node
def xZ22 (N : Nat) (slices : List (List xZ1)) : Option ((List UInt8) ⊕ (List xZ1)) :=
  lp2 (xZ1D N slices slices (List.length slices : Int)) N 0 0
def xZY (N : Nat) (n : xZ1) (kids : List (List xZ1)) : Option (List xZ1) :=
  (xZ22 N kids).bind fun x => Sum.elim
  (fun node =>
   none)
  (fun node2 =>
   gd (Nat.ble ((1 + List.length node2) * 80) 140737488355328) (
   some (n :: node2))) x
def xZA (N : Nat) (kind : Int) (y : List xZ0) (y2 : Int) (y3 : Int) : Option ((Int × Int × List xZ0 × Int × Int) ⊕ (xZ0 × List xZ0 × Int × Int)) :=
  (xZn N y y2 y3).bind fun vnext =>
  bif (vnext.1.Kind != kind) then
   (xZk N 4 vnext.2.1 vnext.2.2.1 vnext.2.2.2).bind fun fail =>
   some (Sum.inl (fail.1, fail.2.1, fail.2.2.1, fail.2.2.2.1, fail.2.2.2.2))
  else
   gd (i64b (vnext.2.2.1 + 1)) (
   some (Sum.inr (vnext.1, vnext.2.1, (vnext.2.2.1 + 1), vnext.2.2.2)))
def xZs (N : Nat) (y : List xZ0) (y2 : Int) (y3 : Int) : Option ((Int × Int × List xZ0 × Int × Int) ⊕ (List xZ1 × List xZ0 × Int × Int)) :=
  (xZf N 4 [45] y y2 y3).bind fun eat =>
  bif eat.1 then
   (xZn N eat.2.1 eat.2.2.1 eat.2.2.2).bind fun vnext =>
   bif (vnext.1.Val.Kind != 1) then
    (xZk N 4 vnext.2.1 vnext.2.2.1 vnext.2.2.2).bind fun fail =>
    some (Sum.inl (fail.1, fail.2.1, fail.2.2.1, fail.2.2.2.1, fail.2.2.2.2))
   else
    (xZA N 3 vnext.2.1 vnext.2.2.1 vnext.2.2.2).bind fun x => Sum.elim
    (fun take =>
     some (Sum.inl (take.1, take.2.1, take.2.2.1, take.2.2.2.1, take.2.2.2.2)))
    (fun take2 =>
     some (Sum.inr ([(xZ1.mk 9 0 [] [] (xZ4.mk take2.1.Val.Kind (IntKind.i64.wrap (0 - take2.1.Val.N)) take2.1.Val.Bits take2.1.Val.Text))], take2.2.1, take2.2.2.1, take2.2.2.2))) x
  else
   (xZn N eat.2.1 eat.2.2.1 eat.2.2.2).bind fun vnext2 =>
   bif (vnext2.1.Kind == 3) then
    gd (i64b (vnext2.2.2.1 + 1)) (
    some (Sum.inr ([(xZ1.mk 9 0 [] [] vnext2.1.Val)], vnext2.2.1, (vnext2.2.2.1 + 1), vnext2.2.2.2)))
   else
    (xZA N 1 vnext2.2.1 vnext2.2.2.1 vnext2.2.2.2).bind fun x => Sum.elim
    (fun take3 =>
     some (Sum.inl (take3.1, take3.2.1, take3.2.2.1, take3.2.2.2.1, take3.2.2.2.2)))
    (fun take4 =>
     (xZf N 4 [46] take4.2.1 take4.2.2.1 take4.2.2.2).bind fun eat2 =>
     bif eat2.1 then
      (xZA N 1 eat2.2.1 eat2.2.2.1 eat2.2.2.2).bind fun x => Sum.elim
      (fun take5 =>
       some (Sum.inl (take5.1, take5.2.1, take5.2.2.1, take5.2.2.2.1, take5.2.2.2.2)))
      (fun take6 =>
       some (Sum.inr ([(xZ1.mk 8 0 take4.1.Text take6.1.Text (xZ4.mk 0 0 0 []))], take6.2.1, take6.2.2.1, take6.2.2.2))) x
     else
      some (Sum.inr ([(xZ1.mk 7 0 [] take4.1.Text (xZ4.mk 0 0 0 []))], eat2.2.1, eat2.2.2.1, eat2.2.2.2))) x
def xZ2h (N : Nat) (next0 : (List xZ1) → (List xZ0) → Int → Int → Option ((Int × Int × List xZ0 × Int × Int) ⊕ (List xZ1 × List xZ0 × Int × Int))) (l : List xZ1) (y4 : List xZ0) (y5 : Int) (y6 : Int) : Option ((Int × Int × List xZ0 × Int × Int) ⊕ (List xZ1 × List xZ0 × Int × Int)) :=
  (xZf N 4 [43] y4 y5 y6).bind fun eat =>
  bif eat.1 then
   (xZs N eat.2.1 eat.2.2.1 eat.2.2.2).bind fun x => Sum.elim
   (fun unit3 =>
    some (Sum.inl (unit3.1, unit3.2.1, unit3.2.2.1, unit3.2.2.2.1, unit3.2.2.2.2)))
   (fun unit4 =>
    (xZY N (xZ1.mk 5 0 [] [] (xZ4.mk 0 0 0 [])) [l, unit4.1]).bind fun abov =>
    next0 abov unit4.2.1 unit4.2.2.1 unit4.2.2.2) x
  else
   (xZf N 4 [45] eat.2.1 eat.2.2.1 eat.2.2.2).bind fun eat2 =>
   bif eat2.1 then
    (xZs N eat2.2.1 eat2.2.2.1 eat2.2.2.2).bind fun x => Sum.elim
    (fun unit5 =>
     some (Sum.inl (unit5.1, unit5.2.1, unit5.2.2.1, unit5.2.2.2.1, unit5.2.2.2.2)))
    (fun unit6 =>
     (xZY N (xZ1.mk 6 0 [] [] (xZ4.mk 0 0 0 [])) [l, unit6.1]).bind fun abov2 =>
     next0 abov2 unit6.2.1 unit6.2.2.1 unit6.2.2.2) x
   else
    some (Sum.inr (l, eat2.2.1, eat2.2.2.1, eat2.2.2.2))
def xZ18 (N : Nat) (y : List xZ0) (y2 : Int) (y3 : Int) : Option ((Int × Int × List xZ0 × Int × Int) ⊕ (List xZ1 × List xZ0 × Int × Int)) :=
  (xZs N y y2 y3).bind fun x => Sum.elim
  (fun unit =>
   some (Sum.inl (unit.1, unit.2.1, unit.2.2.1, unit.2.2.2.1, unit.2.2.2.2)))
  (fun unit2 =>
   lp4 (xZ2h N) N unit2.1 unit2.2.1 unit2.2.2.1 unit2.2.2.2) x
def xZ2d (N : Nat) (op : Int) : Option (List UInt8) :=
  bif (op == 1) then
   some [61]
  else
   bif (op == 2) then
    some [33, 61]
   else
    bif (op == 3) then
     some [60]
    else
     bif (op == 4) then
      some [60, 61]
     else
      bif (op == 5) then
       some [62]
      else
       bif (op == 6) then
        some [62, 61]
       else
        some []
def xZ5m (N : Nat) (sign : List UInt8) (next0 : Int → Option Int) (op : Int) : Option Int :=
  bif (leB op 6) then
   (xZ2d N op).bind fun sign2 =>
   bif (sign2 == sign) then
    some op
   else
    next0 (IntKind.u8.wrap (op + 1))
  else
   some 0
def xZ8k (N : Nat) (sign : List UInt8) : Option Int :=
  lp1 (xZ5m N sign) N 1
abbrev xZC : Type := (Int → (List xZ0) → Int → Int → Option ((Int × Int × List xZ0 × Int × Int) ⊕ (List xZ1 × List xZ0 × Int × Int))) × (Int → (List xZ0) → Int → Int → Option ((Int × Int × List xZ0 × Int × Int) ⊕ (List xZ1 × List xZ0 × Int × Int))) × (Int → (List xZ0) → Int → Int → Option ((Int × Int × List xZ0 × Int × Int) ⊕ (List xZ1 × List xZ0 × Int × Int)))
def xZ2t (N : Nat) (p : xZC) (deep : Int) (next0 : (List xZ1) → (List xZ0) → Int → Int → Option ((Int × Int × List xZ0 × Int × Int) ⊕ (List xZ1 × List xZ0 × Int × Int))) (l : List xZ1) (y4 : List xZ0) (y5 : Int) (y6 : Int) : Option ((Int × Int × List xZ0 × Int × Int) ⊕ (List xZ1 × List xZ0 × Int × Int)) :=
  (xZf N 2 [111, 114] y4 y5 y6).bind fun eat =>
  bif eat.1 then
   (p.2.1 deep eat.2.1 eat.2.2.1 eat.2.2.2).bind fun x => Sum.elim
   (fun and3 =>
    some (Sum.inl (and3.1, and3.2.1, and3.2.2.1, and3.2.2.2.1, and3.2.2.2.2)))
   (fun and4 =>
    (xZY N (xZ1.mk 2 0 [] [] (xZ4.mk 0 0 0 [])) [l, and4.1]).bind fun abov =>
    next0 abov and4.2.1 and4.2.2.1 and4.2.2.2) x
  else
   some (Sum.inr (l, eat.2.1, eat.2.2.1, eat.2.2.2))
def xZ7M (N : Nat) (p : xZC) (deep : Int) (y : List xZ0) (y2 : Int) (y3 : Int) : Option ((Int × Int × List xZ0 × Int × Int) ⊕ (List xZ1 × List xZ0 × Int × Int)) :=
  (p.2.1 deep y y2 y3).bind fun x => Sum.elim
  (fun and =>
   some (Sum.inl (and.1, and.2.1, and.2.2.1, and.2.2.2.1, and.2.2.2.2)))
  (fun and2 =>
   lp4 (xZ2t N p deep) N and2.1 and2.2.1 and2.2.2.1 and2.2.2.2) x
def xZ2j (N : Nat) (p : xZC) (deep : Int) (next0 : (List xZ1) → (List xZ0) → Int → Int → Option ((Int × Int × List xZ0 × Int × Int) ⊕ (List xZ1 × List xZ0 × Int × Int))) (l : List xZ1) (y4 : List xZ0) (y5 : Int) (y6 : Int) : Option ((Int × Int × List xZ0 × Int × Int) ⊕ (List xZ1 × List xZ0 × Int × Int)) :=
  (xZf N 2 [97, 110, 100] y4 y5 y6).bind fun eat =>
  bif eat.1 then
   (p.2.2 deep eat.2.1 eat.2.2.1 eat.2.2.2).bind fun x => Sum.elim
   (fun part3 =>
    some (Sum.inl (part3.1, part3.2.1, part3.2.2.1, part3.2.2.2.1, part3.2.2.2.2)))
   (fun part4 =>
    (xZY N (xZ1.mk 1 0 [] [] (xZ4.mk 0 0 0 [])) [l, part4.1]).bind fun abov =>
    next0 abov part4.2.1 part4.2.2.1 part4.2.2.2) x
  else
   some (Sum.inr (l, eat.2.1, eat.2.2.1, eat.2.2.2))
def xZ76 (N : Nat) (p : xZC) (deep : Int) (y : List xZ0) (y2 : Int) (y3 : Int) : Option ((Int × Int × List xZ0 × Int × Int) ⊕ (List xZ1 × List xZ0 × Int × Int)) :=
  (p.2.2 deep y y2 y3).bind fun x => Sum.elim
  (fun part =>
   some (Sum.inl (part.1, part.2.1, part.2.2.1, part.2.2.2.1, part.2.2.2.2)))
  (fun part2 =>
   lp4 (xZ2j N p deep) N part2.1 part2.2.1 part2.2.2.1 part2.2.2.2) x
def xZ2z (N : Nat) (p : xZC) (deep : Int) (y : List xZ0) (y2 : Int) (y3 : Int) : Option ((Int × Int × List xZ0 × Int × Int) ⊕ (List xZ1 × List xZ0 × Int × Int)) :=
  (xZ1k N deep y y2 y3).bind fun x => Sum.elim
  (fun deep2 =>
   some (Sum.inl (deep2.1, deep2.2.1, deep2.2.2.1, deep2.2.2.2.1, deep2.2.2.2.2)))
  (fun deep3 =>
   (xZf N 2 [110, 111, 116] deep3.1 deep3.2.1 deep3.2.2).bind fun eat =>
   bif eat.1 then
    gd (i64b (deep + 1)) (
    (p.2.2 (deep + 1) eat.2.1 eat.2.2.1 eat.2.2.2).bind fun x => Sum.elim
    (fun part =>
     some (Sum.inl (part.1, part.2.1, part.2.2.1, part.2.2.2.1, part.2.2.2.2)))
    (fun part2 =>
     (xZY N (xZ1.mk 3 0 [] [] (xZ4.mk 0 0 0 [])) [part2.1]).bind fun abov =>
     some (Sum.inr (abov, part2.2.1, part2.2.2.1, part2.2.2.2))) x)
   else
    (xZf N 4 [40] eat.2.1 eat.2.2.1 eat.2.2.2).bind fun eat2 =>
    bif eat2.1 then
     gd (i64b (deep + 1)) (
     (p.1 (deep + 1) eat2.2.1 eat2.2.2.1 eat2.2.2.2).bind fun x => Sum.elim
     (fun or =>
      some (Sum.inl (or.1, or.2.1, or.2.2.1, or.2.2.2.1, or.2.2.2.2)))
     (fun or2 =>
      (xZf N 4 [41] or2.2.1 or2.2.2.1 or2.2.2.2).bind fun eat3 =>
      bif (!eat3.1) then
       (xZk N 4 eat3.2.1 eat3.2.2.1 eat3.2.2.2).bind fun fail =>
       some (Sum.inl (fail.1, fail.2.1, fail.2.2.1, fail.2.2.2.1, fail.2.2.2.2))
      else
       some (Sum.inr (or2.1, eat3.2.1, eat3.2.2.1, eat3.2.2.2))) x)
    else
     (xZ18 N eat2.2.1 eat2.2.2.1 eat2.2.2.2).bind fun x => Sum.elim
     (fun sum =>
      some (Sum.inl (sum.1, sum.2.1, sum.2.2.1, sum.2.2.2.1, sum.2.2.2.2)))
     (fun sum2 =>
      (xZn N sum2.2.1 sum2.2.2.1 sum2.2.2.2).bind fun vnext =>
      (xZ8k N vnext.1.Text).bind fun op =>
      bif (op == 0) then
       (xZk N 4 vnext.2.1 vnext.2.2.1 vnext.2.2.2).bind fun fail2 =>
       some (Sum.inl (fail2.1, fail2.2.1, fail2.2.2.1, fail2.2.2.2.1, fail2.2.2.2.2))
      else
       (xZA N 4 vnext.2.1 vnext.2.2.1 vnext.2.2.2).bind fun x => Sum.elim
       (fun take =>
        some (Sum.inl (take.1, take.2.1, take.2.2.1, take.2.2.2.1, take.2.2.2.2)))
       (fun take2 =>
        (xZ18 N take2.2.1 take2.2.2.1 take2.2.2.2).bind fun x => Sum.elim
        (fun sum3 =>
         some (Sum.inl (sum3.1, sum3.2.1, sum3.2.2.1, sum3.2.2.2.1, sum3.2.2.2.2)))
        (fun sum4 =>
         (xZY N (xZ1.mk 4 op [] [] (xZ4.mk 0 0 0 [])) [sum2.1, sum4.1]).bind fun abov2 =>
         some (Sum.inr (abov2, sum4.2.1, sum4.2.2.1, sum4.2.2.2))) x) x) x) x
def xZb (N : Nat) : xZC := Nat.rec (motive := fun _ => xZC) ((fun _ _ _ _ => none), (fun _ _ _ _ => none), (fun _ _ _ _ => none)) (fun N p => ((xZ7M N p), (xZ76 N p), (xZ2z N p))) N
def xZJ (N : Nat) (deep : Int) (y : List xZ0) (y2 : Int) (y3 : Int) : Option ((Int × Int × List xZ0 × Int × Int) ⊕ (List xZ1 × List xZ0 × Int × Int)) := (xZb N).1 deep y y2 y3
def xZ7h (N : Nat) (deep : Int) (y : List xZ0) (y2 : Int) (y3 : Int) : Option ((Int × Int × List xZ0 × Int × Int) ⊕ (List xZ1 × List xZ0 × Int × Int)) := (xZb N).2.1 deep y y2 y3
def xZ6q (N : Nat) (deep : Int) (y : List xZ0) (y2 : Int) (y3 : Int) : Option ((Int × Int × List xZ0 × Int × Int) ⊕ (List xZ1 × List xZ0 × Int × Int)) := (xZb N).2.2 deep y y2 y3
def xZ3G (N : Nat) (n : xZ1) (vwhere : Int) : Option Bool :=
  bif (vwhere == 0) then
   bif (leB 1 n.Kind) then
    some (leB n.Kind 4)
   else
    some false
  else
   bif (vwhere == 1) then
    bif (leB 5 n.Kind) then
     some (leB n.Kind 9)
    else
     some false
   else
    bif (leB 7 n.Kind) then
     some (leB n.Kind 9)
    else
     some false
def xZ3Z (N : Nat) (c : Int) : Option Bool :=
  bif (leB 97 c) then
   some (leB c 122)
  else
   some false
def xZ6B (N : Nat) (c : Int) : Option Bool :=
  (xZ3Z N c).bind fun lett =>
  bif lett then
   some true
  else
   bif (leB 48 c) then
    bif (leB c 57) then
     some true
    else
     some (c == 95)
   else
    some (c == 95)
def xZ55 (N : Nat) (s : List UInt8) (next0 : Int → Option Bool) (i : Int) : Option Bool :=
  bif (ltB i (List.length s : Int)) then
   (ix s i).bind fun c2 =>
   (xZ6B N (UInt8.toNat c2 : Int)).bind fun tail =>
   bif (!tail) then
    some false
   else
    gd (i64b (i + 1)) (
    next0 (i + 1))
  else
   some true
def xZ2E (N : Nat) (s : List UInt8) : Option Bool :=
  bif (s == []) then
   some false
  else
   bif (ltB 12 (List.length s : Int)) then
    some false
   else
    (ix s 0).bind fun c =>
    (xZ3Z N (UInt8.toNat c : Int)).bind fun lett =>
    bif (!lett) then
     some false
    else
     (xZ26 N s).bind fun rese =>
     bif rese then
      some false
     else
      lp1 (xZ55 N s) N 1
def xZ9Q (N : Nat) (v : xZ4) : Option (Int ⊕ Int ⊕ Int ⊕ (List UInt8) ⊕ Unit) :=
  bif (v.Kind == 1) then
   some (Sum.inl v.N)
  else
   bif (v.Kind == 2) then
    some (Sum.inr (Sum.inl v.N))
   else
    bif (v.Kind == 3) then
     some (Sum.inr (Sum.inr (Sum.inl v.Bits)))
    else
     bif (v.Kind == 4) then
      some (Sum.inr (Sum.inr (Sum.inr (Sum.inl v.Text))))
     else
      some (Sum.inr (Sum.inr (Sum.inr (Sum.inr ()))))
def xZ4g (N : Nat) (n : Int) : Option xZ4 :=
  some (xZ4.mk 1 n 0 [])
def xZ3H (N : Nat) (n : Int) : Option xZ4 :=
  some (xZ4.mk 2 n 0 [])
def xZ4f (N : Nat) (u : Int) : Option xZ4 :=
  some (xZ4.mk 3 0 u [])
def xZ4C (N : Nat) (s : List UInt8) : Option xZ4 :=
  some (xZ4.mk 4 0 0 s)
def xZ59 (N : Nat) (v : xZ4) : Option Int :=
  (xZ9Q N v).bind fun x => Sum.elim
  (fun core =>
   bif (ltB core (-4611686018427387904)) then
    some 8
   else
    bif (ltB 4611686018427387904 core) then
     some 8
    else
     (xZ4g N core).bind fun whol =>
     bif (!((whol.Kind == v.Kind) && ((whol.N == v.N) && ((whol.Bits == v.Bits) && (whol.Text == v.Text))))) then
      some 2
     else
      some 0)
  (Sum.elim
  (fun core2 =>
   bif (core2 != 0) then
    bif (core2 != 1) then
     some 8
    else
     (xZ3H N core2).bind fun whol2 =>
     bif (!((whol2.Kind == v.Kind) && ((whol2.N == v.N) && ((whol2.Bits == v.Bits) && (whol2.Text == v.Text))))) then
      some 2
     else
      some 0
   else
    (xZ3H N core2).bind fun whol3 =>
    bif (!((whol3.Kind == v.Kind) && ((whol3.N == v.N) && ((whol3.Bits == v.Bits) && (whol3.Text == v.Text))))) then
     some 2
    else
     some 0)
  (Sum.elim
  (fun core3 =>
   (xZ4X N core3).bind fun clea =>
   bif (clea != core3) then
    some 4
   else
    (xZ4f N core3).bind fun whol4 =>
    bif (!((whol4.Kind == v.Kind) && ((whol4.N == v.N) && ((whol4.Bits == v.Bits) && (whol4.Text == v.Text))))) then
     some 2
    else
     some 0)
  (Sum.elim
  (fun core4 =>
   bif (ltB 24 (List.length core4 : Int)) then
    some 5
   else
    (xZ4C N core4).bind fun whol5 =>
    bif (!((whol5.Kind == v.Kind) && ((whol5.N == v.N) && ((whol5.Bits == v.Bits) && (whol5.Text == v.Text))))) then
     some 2
    else
     some 0)
  (fun core5 =>
   some 11)))) x
def xZ4b (N : Nat) (n : xZ1) : Option Bool :=
  bif (n.Kind == 4) then
   (xZ2d N n.Op).bind fun sign =>
   some (sign == [])
  else
   bif (n.Kind == 7) then
    (xZ2E N n.Name).bind fun name =>
    some (!name)
   else
    bif (n.Kind == 8) then
     (xZ2E N n.Name).bind fun name2 =>
     bif (!name2) then
      some true
     else
      (xZ2E N n.Var).bind fun name3 =>
      some (!name3)
    else
     bif (n.Kind == 9) then
      (xZ59 N n.Val).bind fun chec =>
      some (chec != 0)
     else
      some false
def xZ81 (N : Nat) (n : xZ1) (e : Int) : Option Int :=
  (xZ4b N n).bind fun lack =>
  bif lack then
   some e
  else
   some 0
def moreZ (v : xZ4) : Bool := (v.Kind == 0) && ((v.N == 0) && ((v.Bits == 0) && (v.Text == [])))
def moreB (n : xZ1) : Bool :=
  bif n.Kind == 4 then !((n.Var == []) && ((n.Name == []) && moreZ n.Val))
  else bif n.Kind == 7 then !((n.Op == 0) && ((n.Var == []) && moreZ n.Val))
  else bif n.Kind == 8 then !((n.Op == 0) && moreZ n.Val)
  else bif n.Kind == 9 then !((n.Op == 0) && ((n.Var == []) && (n.Name == [])))
  else !((n.Op == 0) && ((n.Var == []) && ((n.Name == []) && moreZ n.Val)))
def xZ5O (N : Nat) (n : xZ1) : Option Bool := some (moreB n)
def xZ8a (N : Nat) (n : xZ1) (e : Int) : Option Int :=
  (xZ5O N n).bind fun more =>
  bif more then
   some e
  else
   some 0
def xZ9v (N : Nat) (kind : Int) : Option Int :=
  bif (kind == 1) then
   bif (kind == 1) then
    some 2
   else
    bif (kind == 3) then
     some 1
    else
     some 0
  else
   bif (kind == 2) then
    bif (kind == 2) then
     some 2
    else
     bif (kind == 3) then
      some 1
     else
      some 0
   else
    bif (kind == 4) then
     bif (kind == 4) then
      some 2
     else
      bif (kind == 3) then
       some 1
      else
       some 0
    else
     bif (kind == 5) then
      bif (kind == 5) then
       some 2
      else
       bif (kind == 3) then
        some 1
       else
        some 0
     else
      bif (kind == 6) then
       some 2
      else
       bif (kind == 3) then
        some 1
       else
        some 0
def xZ54 (N : Nat) (n : xZ1) (which : Int) : Option Int :=
  bif (leB n.Kind 3) then
   some 0
  else
   bif (n.Kind == 4) then
    bif (n.Kind == 4) then
     some 1
    else
     some 2
   else
    bif (which == 0) then
     some 1
    else
     some 2
abbrev xZ25 : Type := (Int → Int → (List xZ1) → Int → Option (Int × List xZ1 × Int))
def xZ1Q (N : Nat) (p : xZ25) (deep : Int) (kids : Int) (y5 : Int) (y6 : Int) (y7 : List UInt8) (y8 : List UInt8) (y9 : Int) (y10 : Int) (y11 : Int) (y12 : List UInt8) (next0 : Int → (List xZ1) → Int → Option (Int × List xZ1 × Int)) (x : Int) (y3 : List xZ1) (y4 : Int) : Option (Int × List xZ1 × Int) :=
  bif (ltB x kids) then
   (xZ54 N (xZ1.mk y5 y6 y7 y8 (xZ4.mk y9 y10 y11 y12)) x).bind fun kid =>
   gd (i64b (deep + 1)) (
   (p kid (deep + 1) y3 y4).bind fun tree =>
   bif (tree.1 != 0) then
    some (tree.1, tree.2.1, tree.2.2)
   else
    gd (i64b (x + 1)) (
    next0 (x + 1) tree.2.1 tree.2.2))
  else
   some (0, y3, y4)
def xZ3b (N : Nat) (p : xZ25) (vwhere : Int) (deep : Int) (y : List xZ1) (y2 : Int) : Option (Int × List xZ1 × Int) :=
  bif (leB (List.length y : Int) y2) then
   some (3, y, y2)
  else
   (ix y y2).bind fun e =>
   bif (leB 16 deep) then
    some (15, y, y2)
   else
    (xZ3G N e vwhere).bind fun stan =>
    bif (!stan) then
     some (11, y, y2)
    else
     (xZ81 N e 4).bind fun is =>
     bif (is != 0) then
      some (is, y, y2)
     else
      (xZ8a N e 2).bind fun is2 =>
      bif (is2 != 0) then
       some (is2, y, y2)
      else
       gd (i64b (y2 + 1)) (
       (xZ9v N e.Kind).bind fun kids =>
       lp3 (xZ1Q N p deep kids e.Kind e.Op e.Var e.Name e.Val.Kind e.Val.N e.Val.Bits e.Val.Text) N 0 y (y2 + 1))
def xZW (N : Nat) : xZ25 := Nat.rec (motive := fun _ => xZ25) (fun _ _ _ _ => none) (fun N p => (xZ3b N p)) N
def xZ4F (N : Nat) (vwhere : Int) (deep : Int) (y : List xZ1) (y2 : Int) : Option (Int × List xZ1 × Int) := (xZW N) vwhere deep y y2
def xZ39 (N : Nat) (l : List xZ1) : Option Int :=
  bif (ltB 30 (List.length l : Int)) then
   some 5
  else
   bif ((List.length l : Int) == 0) then
    some 0
   else
    (xZ4F N 0 0 l 0).bind fun tree =>
    bif (tree.1 != 0) then
     some tree.1
    else
     bif (ltB tree.2.2 (List.length l : Int)) then
      some 5
     else
      some 0
def xZ30 (N : Nat) (l : List xZ0) (at_ e : Int) : Option ((List xZ1 × Int) ⊕ (List xZ1 × Int × Int × Int)) :=
  bif ltB at_ 0 then some (.inr ([], 0, 2, 0))
  else bif ltB (l.length : Int) at_ then some (.inr ([], 0, 2, 0))
  else (xZi N l at_ e).bind fun x =>
    (xZJ N 0 x.2.1 x.2.2.1 x.2.2.2).bind fun y => Sum.elim
      (fun p => gd (p.1 != 0) (some (.inr ([], 0, p.1, p.2.1))))
      (fun r => (xZ39 N r.1).bind fun c => bif c != 0 then some (.inr ([], 0, c, x.1)) else some (.inl (r.1, r.2.2.1))) y
def xZ1d (N : Nat) (kind : Int) (y : List xZ0) (y2 : Int) (y3 : Int) : Option ((List xZ2 × List xZ0 × Int × Int) ⊕ (Int × Int × List xZ0 × Int × Int)) :=
  (xZT N y y2 y3).bind fun x => Sum.elim
  (fun name =>
   (xZh N 4 [58] name.2.1 name.2.2.1 name.2.2.2).bind fun x => Sum.elim
   (fun must =>
    (xZT N must.1 must.2.1 must.2.2).bind fun x => Sum.elim
    (fun name2 =>
     (xZa N 4 [91] name2.2.1 name2.2.2.1 name2.2.2.2).bind fun eat =>
     bif eat.1 then
      (xZ30 N eat.2.1 eat.2.2.1 eat.2.2.2).bind fun x => Sum.elim
      (fun pars =>
       (xZ3s N).bind fun stop =>
       (xZh N 4 [93] eat.2.1 pars.2 eat.2.2.2).bind fun x => Sum.elim
       (fun must2 =>
        some (Sum.inl ([(xZ2.mk kind 0 0 0 name.1 name2.1 pars.1)], must2.1, must2.2.1, must2.2.2)))
       (fun must3 =>
        some (Sum.inr (must3.1, must3.2.1, must3.2.2.1, must3.2.2.2.1, must3.2.2.2.2))) x)
      (fun pars2 =>
       (xZ2g N pars2.2.2.1 pars2.2.2.2).bind fun stop2 =>
       some (Sum.inr (stop2.1, stop2.2, eat.2.1, eat.2.2.1, eat.2.2.2))) x
     else
      some (Sum.inl ([(xZ2.mk kind 0 0 0 name.1 name2.1 [])], eat.2.1, eat.2.2.1, eat.2.2.2)))
    (fun name3 =>
     some (Sum.inr (name3.1, name3.2.1, name3.2.2.1, name3.2.2.2.1, name3.2.2.2.2))) x)
   (fun must4 =>
    some (Sum.inr (must4.1, must4.2.1, must4.2.2.1, must4.2.2.2.1, must4.2.2.2.2))) x)
  (fun name4 =>
   some (Sum.inr (name4.1, name4.2.1, name4.2.2.1, name4.2.2.2.1, name4.2.2.2.2))) x
def xZv (N : Nat) (y : List xZ0) (y2 : Int) (y3 : Int) : Option ((Int × List xZ0 × Int × Int) ⊕ (Int × Int × List xZ0 × Int × Int)) :=
  bif (leB (List.length y : Int) y2) then
   (xZe N 4 y y2 y3).bind fun x => Sum.elim
   (fun fail =>
    gd (i64b (fail.2.1 + 1)) (
    gd (i64b ((fail.2.1 + 1) - 1)) (
    (ix fail.1 ((fail.2.1 + 1) - 1)).bind fun e =>
    some (Sum.inl (e.Val.N, fail.1, (fail.2.1 + 1), fail.2.2)))))
   (fun fail2 =>
    some (Sum.inr (fail2.1, fail2.2.1, fail2.2.2.1, fail2.2.2.2.1, fail2.2.2.2.2))) x
  else
   (ix y y2).bind fun e2 =>
   bif (e2.Kind != 3) then
    (xZe N 4 y y2 y3).bind fun x => Sum.elim
    (fun fail3 =>
     gd (i64b (fail3.2.1 + 1)) (
     gd (i64b ((fail3.2.1 + 1) - 1)) (
     (ix fail3.1 ((fail3.2.1 + 1) - 1)).bind fun e3 =>
     some (Sum.inl (e3.Val.N, fail3.1, (fail3.2.1 + 1), fail3.2.2)))))
    (fun fail4 =>
     some (Sum.inr (fail4.1, fail4.2.1, fail4.2.2.1, fail4.2.2.2.1, fail4.2.2.2.2))) x
   else
    (ix y y2).bind fun e4 =>
    bif (e4.Val.Kind != 1) then
     (xZe N 4 y y2 y3).bind fun x => Sum.elim
     (fun fail5 =>
      gd (i64b (fail5.2.1 + 1)) (
      gd (i64b ((fail5.2.1 + 1) - 1)) (
      (ix fail5.1 ((fail5.2.1 + 1) - 1)).bind fun e5 =>
      some (Sum.inl (e5.Val.N, fail5.1, (fail5.2.1 + 1), fail5.2.2)))))
     (fun fail6 =>
      some (Sum.inr (fail6.1, fail6.2.1, fail6.2.2.1, fail6.2.2.2.1, fail6.2.2.2.2))) x
    else
     gd (i64b (y2 + 1)) (
     gd (i64b ((y2 + 1) - 1)) (
     (ix y ((y2 + 1) - 1)).bind fun e6 =>
     some (Sum.inl (e6.Val.N, y, (y2 + 1), y3))))
def xZ1h (N : Nat) (y : List xZ0) (y2 : Int) (y3 : Int) : Option ((Int × Int × List xZ0 × Int × Int) ⊕ (Int × Int × List xZ0 × Int × Int)) :=
  (xZv N y y2 y3).bind fun x => Sum.elim
  (fun numb =>
   (xZa N 4 [44] numb.2.1 numb.2.2.1 numb.2.2.2).bind fun eat =>
   bif eat.1 then
    (xZq N 4 [125] eat.2.1 eat.2.2.1 eat.2.2.2).bind fun peek =>
    bif (!peek.1) then
     (xZv N peek.2.1 peek.2.2.1 peek.2.2.2).bind fun x => Sum.elim
     (fun numb2 =>
      (xZh N 4 [125] numb2.2.1 numb2.2.2.1 numb2.2.2.2).bind fun x => Sum.elim
      (fun must =>
       some (Sum.inl (numb.1, numb2.1, must.1, must.2.1, must.2.2)))
      (fun must2 =>
       some (Sum.inr (must2.1, must2.2.1, must2.2.2.1, must2.2.2.2.1, must2.2.2.2.2))) x)
     (fun numb3 =>
      some (Sum.inr (numb3.1, numb3.2.1, numb3.2.2.1, numb3.2.2.2.1, numb3.2.2.2.2))) x
    else
     (xZh N 4 [125] peek.2.1 peek.2.2.1 peek.2.2.2).bind fun x => Sum.elim
     (fun must3 =>
      some (Sum.inl (numb.1, 0, must3.1, must3.2.1, must3.2.2)))
     (fun must4 =>
      some (Sum.inr (must4.1, must4.2.1, must4.2.2.1, must4.2.2.2.1, must4.2.2.2.2))) x
   else
    (xZh N 4 [125] eat.2.1 eat.2.2.1 eat.2.2.2).bind fun x => Sum.elim
    (fun must5 =>
     some (Sum.inl (numb.1, numb.1, must5.1, must5.2.1, must5.2.2)))
    (fun must6 =>
     some (Sum.inr (must6.1, must6.2.1, must6.2.2.1, must6.2.2.2.1, must6.2.2.2.2))) x)
  (fun numb4 =>
   some (Sum.inr (numb4.1, numb4.2.1, numb4.2.2.1, numb4.2.2.2.1, numb4.2.2.2.2))) x
def xZL (N : Nat) (part : List xZ2) (y : List xZ0) (y2 : Int) (y3 : Int) : Option ((List xZ2 × List xZ0 × Int × Int) ⊕ (Int × Int × List xZ0 × Int × Int)) :=
  (xZa N 4 [43] y y2 y3).bind fun eat =>
  bif eat.1 then
   gd (Nat.ble ((1 + List.length part) * 88) 140737488355328) (
   some (Sum.inl (((xZ2.mk 3 1 1 0 [] [] []) :: part), eat.2.1, eat.2.2.1, eat.2.2.2)))
  else
   (xZa N 4 [42] eat.2.1 eat.2.2.1 eat.2.2.2).bind fun eat2 =>
   bif eat2.1 then
    gd (Nat.ble ((1 + List.length part) * 88) 140737488355328) (
    some (Sum.inl (((xZ2.mk 3 1 0 0 [] [] []) :: part), eat2.2.1, eat2.2.2.1, eat2.2.2.2)))
   else
    (xZa N 4 [63] eat2.2.1 eat2.2.2.1 eat2.2.2.2).bind fun eat3 =>
    bif eat3.1 then
     gd (Nat.ble ((1 + List.length part) * 88) 140737488355328) (
     some (Sum.inl (((xZ2.mk 3 1 0 1 [] [] []) :: part), eat3.2.1, eat3.2.2.1, eat3.2.2.2)))
    else
     (xZa N 4 [123] eat3.2.1 eat3.2.2.1 eat3.2.2.2).bind fun eat4 =>
     bif eat4.1 then
      (xZ1h N eat4.2.1 eat4.2.2.1 eat4.2.2.2).bind fun x => Sum.elim
      (fun coun =>
       gd (Nat.ble ((1 + List.length part) * 88) 140737488355328) (
       some (Sum.inl (((xZ2.mk 3 1 coun.1 coun.2.1 [] [] []) :: part), coun.2.2.1, coun.2.2.2.1, coun.2.2.2.2))))
      (fun coun2 =>
       some (Sum.inr (coun2.1, coun2.2.1, coun2.2.2.1, coun2.2.2.2.1, coun2.2.2.2.2))) x
     else
      some (Sum.inl (part, eat4.2.1, eat4.2.2.1, eat4.2.2.2))
def xZg (N : Nat) (l : List xZ2) (y : Int) (xs : List xZ2) : Option (Int × List xZ2) :=
  (ix l 0).bind fun e =>
  bif (e.Kind == y) then
   (ix xs 0).bind fun e2 =>
   (ix xs 0).bind fun e3 =>
   (ix l 0).bind fun e4 =>
   gd (i64b (e3.Kids + e4.Kids)) (
   (ix xs 0).bind fun e5 =>
   (ix xs 0).bind fun e6 =>
   gd (leB 1 (List.length l : Int)) (
   gd (Nat.ble ((List.length (List.set xs 0 (xZ2.mk e6.Kind (e3.Kids + e4.Kids) e6.Lo e6.Hi e6.Var e6.Type_ e6.Test)) + List.length (List.drop 1 l)) * 88) 140737488355328) (
   some (y, ((List.set xs 0 (xZ2.mk e6.Kind (e3.Kids + e4.Kids) e6.Lo e6.Hi e6.Var e6.Type_ e6.Test)) ++ (List.drop 1 l))))))
  else
   (ix xs 0).bind fun e7 =>
   (ix xs 0).bind fun e8 =>
   gd (i64b (e8.Kids + 1)) (
   (ix xs 0).bind fun e9 =>
   (ix xs 0).bind fun e10 =>
   gd (Nat.ble ((List.length (List.set xs 0 (xZ2.mk e10.Kind (e8.Kids + 1) e10.Lo e10.Hi e10.Var e10.Type_ e10.Test)) + List.length l) * 88) 140737488355328) (
   some (y, ((List.set xs 0 (xZ2.mk e10.Kind (e8.Kids + 1) e10.Lo e10.Hi e10.Var e10.Type_ e10.Test)) ++ l))))
abbrev xZo : Type := (Int → (List xZ0) → Int → Int → Option ((List xZ2 × List xZ0 × Int × Int) ⊕ (Int × Int × List xZ0 × Int × Int))) × (Int → (List UInt8) → Int → (List xZ0) → Int → Int → Option ((List xZ2 × List xZ0 × Int × Int) ⊕ (Int × Int × List xZ0 × Int × Int))) × (Int → (List xZ0) → Int → Int → Option ((List xZ2 × List xZ0 × Int × Int) ⊕ (Int × Int × List xZ0 × Int × Int))) × (Int → (List UInt8) → Int → (List xZ0) → Int → Int → Option ((List xZ2 × List xZ0 × Int × Int) ⊕ (Int × Int × List xZ0 × Int × Int))) × (Int → (List xZ0) → Int → Int → Option ((List xZ2 × List xZ0 × Int × Int) ⊕ (Int × Int × List xZ0 × Int × Int)))
def xZ74 (N : Nat) (p : xZo) (deep : Int) (y : List xZ0) (y2 : Int) (y3 : Int) : Option ((List xZ2 × List xZ0 × Int × Int) ⊕ (Int × Int × List xZ0 × Int × Int)) :=
  (p.2.1 2 [124] deep y y2 y3).bind fun x => Sum.elim
  (fun list =>
   some (Sum.inl (list.1, list.2.1, list.2.2.1, list.2.2.2)))
  (fun list2 =>
   some (Sum.inr (list2.1, list2.2.1, list2.2.2.1, list2.2.2.2.1, list2.2.2.2.2))) x
def xZ2m (N : Nat) (p : xZo) (between : List UInt8) (deep : Int) (next0 : (List xZ0) → Int → Int → Int → (List xZ2) → Option ((List xZ2 × List xZ0 × Int × Int) ⊕ (Int × Int × List xZ0 × Int × Int))) (y4 : List xZ0) (y5 : Int) (y6 : Int) (y7 : Int) (ys : List xZ2) : Option ((List xZ2 × List xZ0 × Int × Int) ⊕ (Int × Int × List xZ0 × Int × Int)) :=
  (xZa N 4 between y4 y5 y6).bind fun eat =>
  bif eat.1 then
   (p.2.2.1 deep eat.2.1 eat.2.2.1 eat.2.2.2).bind fun x => Sum.elim
   (fun bran2 =>
    (xZg N bran2.1 y7 ys).bind fun l2 =>
    next0 bran2.2.1 bran2.2.2.1 bran2.2.2.2 l2.1 l2.2)
   (fun bran3 =>
    some (Sum.inr (bran3.1, bran3.2.1, bran3.2.2.1, bran3.2.2.2.1, bran3.2.2.2.2))) x
  else
   some (Sum.inl (ys, eat.2.1, eat.2.2.1, eat.2.2.2))
def xZ79 (N : Nat) (p : xZo) (kind : Int) (between : List UInt8) (deep : Int) (y : List xZ0) (y2 : Int) (y3 : Int) : Option ((List xZ2 × List xZ0 × Int × Int) ⊕ (Int × Int × List xZ0 × Int × Int)) :=
  (p.2.2.1 deep y y2 y3).bind fun x => Sum.elim
  (fun bran =>
   (xZq N 4 between bran.2.1 bran.2.2.1 bran.2.2.2).bind fun peek =>
   bif (!peek.1) then
    some (Sum.inl (bran.1, peek.2.1, peek.2.2.1, peek.2.2.2))
   else
    (xZg N bran.1 kind [(xZ2.mk kind 0 0 0 [] [] [])]).bind fun l =>
    lp5 (xZ2m N p between deep) N peek.2.1 peek.2.2.1 peek.2.2.2 l.1 l.2)
  (fun bran4 =>
   some (Sum.inr (bran4.1, bran4.2.1, bran4.2.2.1, bran4.2.2.2.1, bran4.2.2.2.2))) x
def xZ5V (N : Nat) (p : xZo) (deep : Int) (y : List xZ0) (y2 : Int) (y3 : Int) : Option ((List xZ2 × List xZ0 × Int × Int) ⊕ (Int × Int × List xZ0 × Int × Int)) :=
  (p.2.2.2.1 1 [59] deep y y2 y3).bind fun x => Sum.elim
  (fun list =>
   some (Sum.inl (list.1, list.2.1, list.2.2.1, list.2.2.2)))
  (fun list2 =>
   some (Sum.inr (list2.1, list2.2.1, list2.2.2.1, list2.2.2.2.1, list2.2.2.2.2))) x
def xZ2i (N : Nat) (p : xZo) (between : List UInt8) (deep : Int) (next0 : (List xZ0) → Int → Int → Int → (List xZ2) → Option ((List xZ2 × List xZ0 × Int × Int) ⊕ (Int × Int × List xZ0 × Int × Int))) (y4 : List xZ0) (y5 : Int) (y6 : Int) (y7 : Int) (ys : List xZ2) : Option ((List xZ2 × List xZ0 × Int × Int) ⊕ (Int × Int × List xZ0 × Int × Int)) :=
  (xZa N 4 between y4 y5 y6).bind fun eat =>
  bif eat.1 then
   (p.2.2.2.2 deep eat.2.1 eat.2.2.1 eat.2.2.2).bind fun x => Sum.elim
   (fun item2 =>
    (xZg N item2.1 y7 ys).bind fun l2 =>
    next0 item2.2.1 item2.2.2.1 item2.2.2.2 l2.1 l2.2)
   (fun item3 =>
    some (Sum.inr (item3.1, item3.2.1, item3.2.2.1, item3.2.2.2.1, item3.2.2.2.2))) x
  else
   some (Sum.inl (ys, eat.2.1, eat.2.2.1, eat.2.2.2))
def xZ6R (N : Nat) (p : xZo) (kind : Int) (between : List UInt8) (deep : Int) (y : List xZ0) (y2 : Int) (y3 : Int) : Option ((List xZ2 × List xZ0 × Int × Int) ⊕ (Int × Int × List xZ0 × Int × Int)) :=
  (p.2.2.2.2 deep y y2 y3).bind fun x => Sum.elim
  (fun item =>
   (xZq N 4 between item.2.1 item.2.2.1 item.2.2.2).bind fun peek =>
   bif (!peek.1) then
    some (Sum.inl (item.1, peek.2.1, peek.2.2.1, peek.2.2.2))
   else
    (xZg N item.1 kind [(xZ2.mk kind 0 0 0 [] [] [])]).bind fun l =>
    lp5 (xZ2i N p between deep) N peek.2.1 peek.2.2.1 peek.2.2.2 l.1 l.2)
  (fun item4 =>
   some (Sum.inr (item4.1, item4.2.1, item4.2.2.1, item4.2.2.2.1, item4.2.2.2.2))) x
def xZ2J (N : Nat) (p : xZo) (deep : Int) (y : List xZ0) (y2 : Int) (y3 : Int) : Option ((List xZ2 × List xZ0 × Int × Int) ⊕ (Int × Int × List xZ0 × Int × Int)) :=
  (xZa N 4 [33] y y2 y3).bind fun eat =>
  bif eat.1 then
   (xZ1d N 5 eat.2.1 eat.2.2.1 eat.2.2.2).bind fun x => Sum.elim
   (fun atom =>
    some (Sum.inl (atom.1, atom.2.1, atom.2.2.1, atom.2.2.2)))
   (fun atom2 =>
    some (Sum.inr (atom2.1, atom2.2.1, atom2.2.2.1, atom2.2.2.2.1, atom2.2.2.2.2))) x
  else
   (xZq N 4 [40] eat.2.1 eat.2.2.1 eat.2.2.2).bind fun peek =>
   bif (!peek.1) then
    (xZ1d N 4 peek.2.1 peek.2.2.1 peek.2.2.2).bind fun x => Sum.elim
    (fun atom3 =>
     (xZL N atom3.1 atom3.2.1 atom3.2.2.1 atom3.2.2.2).bind fun x => Sum.elim
     (fun ofte =>
      some (Sum.inl (ofte.1, ofte.2.1, ofte.2.2.1, ofte.2.2.2)))
     (fun ofte2 =>
      some (Sum.inr (ofte2.1, ofte2.2.1, ofte2.2.2.1, ofte2.2.2.2.1, ofte2.2.2.2.2))) x)
    (fun atom4 =>
     some (Sum.inr (atom4.1, atom4.2.1, atom4.2.2.1, atom4.2.2.2.1, atom4.2.2.2.2))) x
   else
    bif (leB 16 deep) then
     (xZe N 15 peek.2.1 peek.2.2.1 peek.2.2.2).bind fun x => Sum.elim
     (fun fail =>
      gd (i64b (fail.2.1 + 1)) (
      gd (i64b (deep + 1)) (
      (p.1 (deep + 1) fail.1 (fail.2.1 + 1) fail.2.2).bind fun x => Sum.elim
      (fun body =>
       (xZh N 4 [41] body.2.1 body.2.2.1 body.2.2.2).bind fun x => Sum.elim
       (fun must =>
        (xZL N body.1 must.1 must.2.1 must.2.2).bind fun x => Sum.elim
        (fun ofte3 =>
         some (Sum.inl (ofte3.1, ofte3.2.1, ofte3.2.2.1, ofte3.2.2.2)))
        (fun ofte4 =>
         some (Sum.inr (ofte4.1, ofte4.2.1, ofte4.2.2.1, ofte4.2.2.2.1, ofte4.2.2.2.2))) x)
       (fun must2 =>
        some (Sum.inr (must2.1, must2.2.1, must2.2.2.1, must2.2.2.2.1, must2.2.2.2.2))) x)
      (fun body2 =>
       some (Sum.inr (body2.1, body2.2.1, body2.2.2.1, body2.2.2.2.1, body2.2.2.2.2))) x)))
     (fun fail2 =>
      some (Sum.inr (fail2.1, fail2.2.1, fail2.2.2.1, fail2.2.2.2.1, fail2.2.2.2.2))) x
    else
     gd (i64b (peek.2.2.1 + 1)) (
     gd (i64b (deep + 1)) (
     (p.1 (deep + 1) peek.2.1 (peek.2.2.1 + 1) peek.2.2.2).bind fun x => Sum.elim
     (fun body3 =>
      (xZh N 4 [41] body3.2.1 body3.2.2.1 body3.2.2.2).bind fun x => Sum.elim
      (fun must3 =>
       (xZL N body3.1 must3.1 must3.2.1 must3.2.2).bind fun x => Sum.elim
       (fun ofte5 =>
        some (Sum.inl (ofte5.1, ofte5.2.1, ofte5.2.2.1, ofte5.2.2.2)))
       (fun ofte6 =>
        some (Sum.inr (ofte6.1, ofte6.2.1, ofte6.2.2.1, ofte6.2.2.2.1, ofte6.2.2.2.2))) x)
      (fun must4 =>
       some (Sum.inr (must4.1, must4.2.1, must4.2.2.1, must4.2.2.2.1, must4.2.2.2.2))) x)
     (fun body4 =>
      some (Sum.inr (body4.1, body4.2.1, body4.2.2.1, body4.2.2.2.1, body4.2.2.2.2))) x))
def xZ7 (N : Nat) : xZo := Nat.rec (motive := fun _ => xZo) ((fun _ _ _ _ => none), (fun _ _ _ _ _ _ => none), (fun _ _ _ _ => none), (fun _ _ _ _ _ _ => none), (fun _ _ _ _ => none)) (fun N p => ((xZ74 N p), (xZ79 N p), (xZ5V N p), (xZ6R N p), (xZ2J N p))) N
def xZ2S (N : Nat) (deep : Int) (y : List xZ0) (y2 : Int) (y3 : Int) : Option ((List xZ2 × List xZ0 × Int × Int) ⊕ (Int × Int × List xZ0 × Int × Int)) := (xZ7 N).1 deep y y2 y3
def xZ6P (N : Nat) (kind : Int) (between : List UInt8) (deep : Int) (y : List xZ0) (y2 : Int) (y3 : Int) : Option ((List xZ2 × List xZ0 × Int × Int) ⊕ (Int × Int × List xZ0 × Int × Int)) := (xZ7 N).2.1 kind between deep y y2 y3
def xZ5L (N : Nat) (deep : Int) (y : List xZ0) (y2 : Int) (y3 : Int) : Option ((List xZ2 × List xZ0 × Int × Int) ⊕ (Int × Int × List xZ0 × Int × Int)) := (xZ7 N).2.2.1 deep y y2 y3
def xZ7b (N : Nat) (kind : Int) (between : List UInt8) (deep : Int) (y : List xZ0) (y2 : Int) (y3 : Int) : Option ((List xZ2 × List xZ0 × Int × Int) ⊕ (Int × Int × List xZ0 × Int × Int)) := (xZ7 N).2.2.2.1 kind between deep y y2 y3
def xZ73 (N : Nat) (deep : Int) (y : List xZ0) (y2 : Int) (y3 : Int) : Option ((List xZ2 × List xZ0 × Int × Int) ⊕ (Int × Int × List xZ0 × Int × Int)) := (xZ7 N).2.2.2.2 deep y y2 y3
def xZ2T (N : Nat) (mode : Int) : Option (List UInt8) :=
  bif (mode == 1) then
   some [97, 110, 121]
  else
   bif (mode == 2) then
    some [110, 101, 120, 116]
   else
    bif (mode == 3) then
     some [115, 116, 114, 105, 99, 116]
    else
     some []
def xZ2k (N : Nat) (next0 : Int → (List xZ0) → Int → Int → Option ((Int × List xZ0 × Int × Int) ⊕ (Int × Int × List xZ0 × Int × Int))) (m : Int) (y4 : List xZ0) (y5 : Int) (y6 : Int) : Option ((Int × List xZ0 × Int × Int) ⊕ (Int × Int × List xZ0 × Int × Int)) :=
  bif (leB m 3) then
   (xZ2T N m).bind fun word =>
   (xZa N 2 word y4 y5 y6).bind fun eat =>
   bif eat.1 then
    some (Sum.inl (m, eat.2.1, eat.2.2.1, eat.2.2.2))
   else
    next0 (IntKind.u8.wrap (m + 1)) eat.2.1 eat.2.2.1 eat.2.2.2
  else
   (xZe N 4 y4 y5 y6).bind fun x => Sum.elim
   (fun fail =>
    some (Sum.inl (0, fail.1, fail.2.1, fail.2.2)))
   (fun fail2 =>
    some (Sum.inr (fail2.1, fail2.2.1, fail2.2.2.1, fail2.2.2.2.1, fail2.2.2.2.2))) x
def xZ1b (N : Nat) (y : List xZ0) (y2 : Int) (y3 : Int) : Option ((Int × List xZ0 × Int × Int) ⊕ (Int × Int × List xZ0 × Int × Int)) :=
  lp4 (xZ2k N) N 1 y y2 y3
def xZm (N : Nat) (y : List xZ0) (y2 : Int) (y3 : Int) : Option ((xZ5 × List xZ0 × Int × Int) ⊕ (Int × Int × List xZ0 × Int × Int)) :=
  (xZ2S N 0 y y2 y3).bind fun x => Sum.elim
  (fun body =>
   (xZh N 2 [119, 105, 116, 104, 105, 110] body.2.1 body.2.2.1 body.2.2.2).bind fun x => Sum.elim
   (fun must =>
    (xZv N must.1 must.2.1 must.2.2).bind fun x => Sum.elim
    (fun numb =>
     (xZa N 2 [98, 121] numb.2.1 numb.2.2.1 numb.2.2.2).bind fun eat =>
     bif eat.1 then
      (xZT N eat.2.1 eat.2.2.1 eat.2.2.2).bind fun x => Sum.elim
      (fun name =>
       (xZ1b N name.2.1 name.2.2.1 name.2.2.2).bind fun x => Sum.elim
       (fun mode =>
        bif (ltB mode.2.2.1 (List.length mode.2.1 : Int)) then
         (xZe N 4 mode.2.1 mode.2.2.1 mode.2.2.2).bind fun x => Sum.elim
         (fun fail =>
          some (Sum.inl ((xZ5.mk body.1 numb.1 name.1 mode.1), fail.1, fail.2.1, fail.2.2)))
         (fun fail2 =>
          some (Sum.inr (fail2.1, fail2.2.1, fail2.2.2.1, fail2.2.2.2.1, fail2.2.2.2.2))) x
        else
         some (Sum.inl ((xZ5.mk body.1 numb.1 name.1 mode.1), mode.2.1, mode.2.2.1, mode.2.2.2)))
       (fun mode2 =>
        some (Sum.inr (mode2.1, mode2.2.1, mode2.2.2.1, mode2.2.2.2.1, mode2.2.2.2.2))) x)
      (fun name2 =>
       some (Sum.inr (name2.1, name2.2.1, name2.2.2.1, name2.2.2.2.1, name2.2.2.2.2))) x
     else
      (xZ1b N eat.2.1 eat.2.2.1 eat.2.2.2).bind fun x => Sum.elim
      (fun mode3 =>
       bif (ltB mode3.2.2.1 (List.length mode3.2.1 : Int)) then
        (xZe N 4 mode3.2.1 mode3.2.2.1 mode3.2.2.2).bind fun x => Sum.elim
        (fun fail3 =>
         some (Sum.inl ((xZ5.mk body.1 numb.1 [] mode3.1), fail3.1, fail3.2.1, fail3.2.2)))
        (fun fail4 =>
         some (Sum.inr (fail4.1, fail4.2.1, fail4.2.2.1, fail4.2.2.2.1, fail4.2.2.2.2))) x
       else
        some (Sum.inl ((xZ5.mk body.1 numb.1 [] mode3.1), mode3.2.1, mode3.2.2.1, mode3.2.2.2)))
      (fun mode4 =>
       some (Sum.inr (mode4.1, mode4.2.1, mode4.2.2.1, mode4.2.2.2.1, mode4.2.2.2.2))) x)
    (fun numb2 =>
     some (Sum.inr (numb2.1, numb2.2.1, numb2.2.2.1, numb2.2.2.2.1, numb2.2.2.2.2))) x)
   (fun must2 =>
    some (Sum.inr (must2.1, must2.2.1, must2.2.2.1, must2.2.2.2.1, must2.2.2.2.2))) x)
  (fun body2 =>
   some (Sum.inr (body2.1, body2.2.1, body2.2.2.1, body2.2.2.2.1, body2.2.2.2.2))) x
def xZ1i (N : Nat) (y : List xZ0) (y2 : Int) (y3 : Int) : Option ((xZ5 × List xZ0 × Int × Int) ⊕ (xZ5 × Int × Int × List xZ0 × Int × Int)) :=
  (xZm N y y2 y3).bind fun x => Sum.elim (fun r => some (Sum.inl r)) (fun f => some (Sum.inr (xZ5.mk [] 0 [] 0, f))) x
def xZ2D (N : Nat) (n : xZ2) : Option Bool :=
  bif (n.Kind == 1) then
   some true
  else
   some (n.Kind == 2)
def xZ3n (N : Nat) (n : xZ2) (above : Int) : Option Bool :=
  bif (ltB n.Kind 1) then
   some false
  else
   bif (ltB 5 n.Kind) then
    some false
   else
    (xZ2D N n).bind fun list =>
    bif list then
     some (n.Kind != above)
    else
     bif (n.Kind != 5) then
      some true
     else
      some (above != 3)
def xZ3D (N : Nat) (n : xZ2) : Option Bool :=
  bif (ltB n.Lo 0) then
   some false
  else
   bif (ltB 8 n.Lo) then
    some false
   else
    bif (ltB n.Hi 0) then
     some false
    else
     bif (ltB 8 n.Hi) then
      some false
     else
      bif (n.Lo == 1) then
       bif (n.Hi == 1) then
        some false
       else
        bif (n.Hi == 0) then
         some true
        else
         some (leB n.Lo n.Hi)
      else
       bif (n.Hi == 0) then
        some true
       else
        some (leB n.Lo n.Hi)
def xZ3C (N : Nat) (n : xZ2) : Option Bool :=
  (xZ2D N n).bind fun list =>
  bif list then
   bif (ltB n.Kids 2) then
    some true
   else
    some (ltB 40 n.Kids)
  else
   bif (n.Kind == 3) then
    bif (n.Kids != 1) then
     some true
    else
     (xZ3D N n).bind fun ofte =>
     some (!ofte)
   else
    (xZ2E N n.Var).bind fun name =>
    bif (!name) then
     some true
    else
     (xZ2E N n.Type_).bind fun name2 =>
     bif (!name2) then
      some true
     else
      (xZ39 N n.Test).bind fun chec =>
      some (chec != 0)
def xZ10 (N : Nat) (n : xZ2) : Option Bool :=
  bif (n.Kind == 4) then
   some true
  else
   some (n.Kind == 5)
def xZ46 (N : Nat) (n : xZ2) : Option Bool :=
  bif (n.Lo != 0) then
   bif (!(n.Var == [])) then
    (xZ10 N n).bind fun leaf =>
    bif leaf then
     some true
    else
     some true
   else
    bif (!(n.Type_ == [])) then
     (xZ10 N n).bind fun leaf2 =>
     bif leaf2 then
      some true
     else
      some true
    else
     (xZ10 N n).bind fun leaf3 =>
     bif leaf3 then
      some true
     else
      bif (ltB 0 (List.length n.Test : Int)) then
       some true
      else
       some (n.Kind != 3)
  else
   bif (!(n.Var == [])) then
    (xZ10 N n).bind fun leaf4 =>
    bif leaf4 then
     bif (n.Hi != 0) then
      some true
     else
      some (n.Kids != 0)
    else
     some true
   else
    bif (!(n.Type_ == [])) then
     (xZ10 N n).bind fun leaf5 =>
     bif leaf5 then
      bif (n.Hi != 0) then
       some true
      else
       some (n.Kids != 0)
     else
      some true
    else
     (xZ10 N n).bind fun leaf6 =>
     bif leaf6 then
      bif (n.Hi != 0) then
       some true
      else
       some (n.Kids != 0)
     else
      bif (ltB 0 (List.length n.Test : Int)) then
       some true
      else
       bif (n.Hi != 0) then
        some (n.Kind != 3)
       else
        some false
def xZ2B (N : Nat) (n : xZ2) : Option Int :=
  (xZ2D N n).bind fun list =>
  bif list then
   some (max 0 (min n.Kids 40))
  else
   bif (n.Kind == 3) then
    some 1
   else
    some 0
abbrev xZ6z : Type := ((List xZ2) → Int → Int → Option (List xZ2 × Int))
def xZ8x (N : Nat) (p : xZ6z) (deep : Int) (kids : Int) (y : Int) (next1 : (List xZ2) → Int → Option (List xZ2 × Int)) (rest : List xZ2) (x : Int) : Option (List xZ2 × Int) :=
  bif (ltB x kids) then
   gd (i64b (deep + 1)) (
   (p rest y (deep + 1)).bind fun tree =>
   bif (tree.2 != 0) then
    some ([], tree.2)
   else
    gd (i64b (x + 1)) (
    next1 tree.1 (x + 1)))
  else
   some (rest, 0)
def xZab (N : Nat) (p : xZ6z) (l : List xZ2) (above : Int) (deep : Int) : Option (List xZ2 × Int) :=
  bif ((List.length l : Int) == 0) then
   some ([], 3)
  else
   bif (leB 16 deep) then
    some ([], 15)
   else
    (ix l 0).bind fun e =>
    (xZ3n N e above).bind fun stan =>
    bif (!stan) then
     some ([], 11)
    else
     (ix l 0).bind fun e2 =>
     (xZ3C N e2).bind fun lack =>
     bif lack then
      some ([], 4)
     else
      (ix l 0).bind fun e3 =>
      (xZ46 N e3).bind fun more =>
      bif more then
       some ([], 2)
      else
       (ix l 0).bind fun e4 =>
       gd (leB 1 (List.length l : Int)) (
       (xZ2B N e4).bind fun kids =>
       lp2 (xZ8x N p deep kids e4.Kind) N (List.drop 1 l) 0)
def xZ6A (N : Nat) : xZ6z := Nat.rec (motive := fun _ => xZ6z) (fun _ _ _ => none) (fun N p => (xZab N p)) N
def xZa5 (N : Nat) (l : List xZ2) (above : Int) (deep : Int) : Option (List xZ2 × Int) := (xZ6A N) l above deep
def xZ4l (N : Nat) (p : xZ5) : Option Int :=
  bif (ltB 40 (List.length p.Body : Int)) then
   some 5
  else
   (xZa5 N p.Body 0 0).bind fun tree =>
   bif (tree.2 != 0) then
    some tree.2
   else
    bif (ltB 0 (List.length tree.1 : Int)) then
     some 5
    else
     bif (ltB p.Within 1) then
      some 8
     else
      bif (ltB 1073741824 p.Within) then
       some 8
      else
       bif (!(p.By == [])) then
        (xZ2E N p.By).bind fun name =>
        bif (!name) then
         some 4
        else
         (xZ2T N p.Mode).bind fun word =>
         bif (word == []) then
          some 11
         else
          some 0
       else
        (xZ2T N p.Mode).bind fun word2 =>
        bif (word2 == []) then
         some 11
        else
         some 0
def xZ50 (N : Nat) (s : List UInt8) : Option (xZ5 ⊕ (xZ5 × Int × Int)) :=
  (xZaf N s).bind fun x => Sum.elim
  (fun scan =>
   (xZ1i N scan 0 (List.length s : Int)).bind fun x => Sum.elim
   (fun patt =>
    (xZ4l N patt.1).bind fun chec =>
    bif (chec != 0) then
     (xZU N chec 0).bind fun x => Sum.elim
     (fun new =>
      some (Sum.inl (xZ5.mk [] 0 [] 0)))
     (fun new2 =>
      some (Sum.inr ((xZ5.mk [] 0 [] 0), new2.1, new2.2))) x
    else
     some (Sum.inl patt.1))
   (fun patt2 =>
    some (Sum.inr ((xZ5.mk [] 0 [] 0), patt2.2.1, patt2.2.2.1))) x)
  (fun scan2 =>
   some (Sum.inr ((xZ5.mk [] 0 [] 0), scan2.2.1, scan2.2.2))) x
def xZdh (N : Nat) : Option Int :=
  some 0
def xZar (N : Nat) : Option Unit := some ()
def xZfe (N : Nat) : Option Int :=
  (xZar N).bind fun find =>
  some 0
def xZ8s (N : Nat) (kind : Int) : Option Int :=
  bif (kind == 2) then
   some 1
  else
   bif (kind == 1) then
    some 2
   else
    some 3
def dgF : Nat → Nat → List UInt8
  | 0, _ => []
  | f + 1, m => (if m / 10 = 0 then [] else dgF f (m / 10)) ++ [UInt8.ofNat (48 + m % 10)]
def whS (n : Int) : List UInt8 := (if n < 0 then [45] else []) ++ dgF 20 n.natAbs
def xZ7Y (N : Nat) (n : Int) : Option (List UInt8) := gd (leB (-4611686018427387904) n && leB n 4611686018427387904) (some (whS n))
def hexB (n : Nat) : UInt8 := if n < 10 then UInt8.ofNat (48 + n) else UInt8.ofNat (87 + n)
def hxS : Nat → Nat → List UInt8
  | 0, _ => []
  | k + 1, u => hexB (u / 16 ^ k % 16) :: hxS k u
def bitS (u : Nat) : List UInt8 := 35 :: hxS 16 u
def xZ9c (N : Nat) (u : Int) : Option (List UInt8) := gd (leB 0 u && ltB u 18446744073709551616) (some (bitS u.toNat))
def txC (c : UInt8) : List UInt8 := if c = 39 then [39, 39] else if c < 32 ∨ 126 < c ∨ c = 92 then [92, hexB (c.toNat / 16), hexB (c.toNat % 16)] else [c]
def txS (s : List UInt8) : List UInt8 := [39] ++ s.flatMap txC ++ [39]
def xZ9b (N : Nat) (s : List UInt8) : Option (List UInt8) := gd (Nat.ble s.length 10000000000) (some (txS s))
def xZ4m (N : Nat) (v : xZ4) : Option (List UInt8) :=
  (xZ59 N v).bind fun chec =>
  bif (chec != 0) then
   some []
  else
   bif (v.Kind == 1) then
    (xZ7Y N v.N).bind fun whol =>
    some whol
   else
    bif (v.Kind == 2) then
     bif (v.N == 0) then
      some [102, 97, 108, 115, 101]
     else
      some [116, 114, 117, 101]
    else
     bif (v.Kind == 3) then
      (xZ9c N v.Bits).bind fun bits =>
      some bits
     else
      (xZ9b N v.Text).bind fun text =>
      some text
abbrev xZ1g : Type := ((List xZ1) → Int → Option (List UInt8 × List xZ1 × Int)) × ((List UInt8) → Int → Int → (List xZ1) → Int → Option (List UInt8 × List xZ1 × Int)) × (Int → (List xZ1) → Int → Option (List UInt8 × List xZ1 × Int))
def xZ9 (N : Nat) (p : xZ1g) (y : List xZ1) (y2 : Int) : Option (List UInt8 × List xZ1 × Int) :=
  (ix y y2).bind fun e =>
  gd (i64b (y2 + 1)) (
  bif (e.Kind == 2) then
   (p.2.1 [111, 114] 1 2 y (y2 + 1)).bind fun two =>
   some (two.1, two.2.1, two.2.2)
  else
   bif (e.Kind == 1) then
    (p.2.1 [97, 110, 100] 2 3 y (y2 + 1)).bind fun two2 =>
    some (two2.1, two2.2.1, two2.2.2)
   else
    bif (e.Kind == 3) then
     (p.2.2 3 y (y2 + 1)).bind fun vwith =>
     gd (Nat.ble (4 + (List.length vwith.1)) 9223372036854775807) (
     some ((110 :: 111 :: 116 :: 32 :: vwith.1), vwith.2.1, vwith.2.2))
    else
     bif (e.Kind == 4) then
      (xZ2d N e.Op).bind fun sign =>
      (p.2.1 sign 0 0 y (y2 + 1)).bind fun two3 =>
      some (two3.1, two3.2.1, two3.2.2)
     else
      bif (e.Kind == 5) then
       (p.2.1 [43] 0 0 y (y2 + 1)).bind fun two4 =>
       some (two4.1, two4.2.1, two4.2.2)
      else
       bif (e.Kind == 6) then
        (p.2.1 [45] 0 0 y (y2 + 1)).bind fun two5 =>
        some (two5.1, two5.2.1, two5.2.2)
       else
        bif (e.Kind == 7) then
         some (e.Name, y, (y2 + 1))
        else
         bif (e.Kind == 8) then
          gd (Nat.ble ((List.length e.Var) + 1) 9223372036854775807) (
          gd (Nat.ble ((List.length (e.Var ++ [46])) + (List.length e.Name)) 9223372036854775807) (
          some (((e.Var ++ [46]) ++ e.Name), y, (y2 + 1))))
         else
          (xZ4m N e.Val).bind fun lite =>
          some (lite, y, (y2 + 1)))
def xZ3i (N : Nat) (p : xZ1g) (word : List UInt8) (left : Int) (right : Int) (y : List xZ1) (y2 : Int) : Option (List UInt8 × List xZ1 × Int) :=
  (p.2.2 left y y2).bind fun vwith =>
  gd (Nat.ble ((List.length vwith.1) + 1) 9223372036854775807) (
  gd (Nat.ble ((List.length (vwith.1 ++ [32])) + (List.length word)) 9223372036854775807) (
  gd (Nat.ble ((List.length ((vwith.1 ++ [32]) ++ word)) + 1) 9223372036854775807) (
  (p.2.2 right vwith.2.1 vwith.2.2).bind fun vwith2 =>
  gd (Nat.ble ((List.length (((vwith.1 ++ [32]) ++ word) ++ [32])) + (List.length vwith2.1)) 9223372036854775807) (
  some (((((vwith.1 ++ [32]) ++ word) ++ [32]) ++ vwith2.1), vwith2.2.1, vwith2.2.2)))))
def xZ2U (N : Nat) (p : xZ1g) (least : Int) (y : List xZ1) (y2 : Int) : Option (List UInt8 × List xZ1 × Int) :=
  (ix y y2).bind fun e =>
  (xZ8s N e.Kind).bind fun boun =>
  bif (ltB boun least) then
   (p.1 y y2).bind fun tree =>
   gd (Nat.ble (1 + (List.length tree.1)) 9223372036854775807) (
   gd (Nat.ble ((List.length tree.1 + 1) + 1) 9223372036854775807) (
   some ((40 :: (tree.1 ++ [41])), tree.2.1, tree.2.2)))
  else
   (p.1 y y2).bind fun tree2 =>
   some (tree2.1, tree2.2.1, tree2.2.2)
def xZ6 (N : Nat) : xZ1g := Nat.rec (motive := fun _ => xZ1g) ((fun _ _ => none), (fun _ _ _ _ _ => none), (fun _ _ _ => none)) (fun N p => ((xZ9 N p), (xZ3i N p), (xZ2U N p))) N
def xZ3c (N : Nat) (y : List xZ1) (y2 : Int) : Option (List UInt8 × List xZ1 × Int) := (xZ6 N).1 y y2
def xZ8U (N : Nat) (word : List UInt8) (left : Int) (right : Int) (y : List xZ1) (y2 : Int) : Option (List UInt8 × List xZ1 × Int) := (xZ6 N).2.1 word left right y y2
def xZ7n (N : Nat) (least : Int) (y : List xZ1) (y2 : Int) : Option (List UInt8 × List xZ1 × Int) := (xZ6 N).2.2 least y y2
def xZ4Q (N : Nat) (l : List xZ1) : Option (List UInt8) :=
  bif ((List.length l : Int) == 0) then
   some []
  else
   (xZ39 N l).bind fun chec =>
   bif (chec != 0) then
    some []
   else
    (xZ3c N l 0).bind fun tree =>
    some tree.1
def xZ47 (N : Nat) (n : xZ2) : Option (List UInt8) :=
  gd (Nat.ble ((List.length n.Var) + 1) 9223372036854775807) (
  gd (Nat.ble ((List.length (n.Var ++ [58])) + (List.length n.Type_)) 9223372036854775807) (
  bif (n.Kind == 5) then
   gd (Nat.ble (1 + (List.length ((n.Var ++ [58]) ++ n.Type_))) 9223372036854775807) (
   bif (ltB 0 (List.length n.Test : Int)) then
    (xZ4Q N n.Test).bind fun prin =>
    gd (Nat.ble (1 + (List.length prin)) 9223372036854775807) (
    gd (Nat.ble ((List.length prin + 1) + 1) 9223372036854775807) (
    gd (Nat.ble ((List.length ((n.Var ++ [58]) ++ n.Type_) + 1) + (List.length (prin ++ [93]) + 1)) 9223372036854775807) (
    some (33 :: (((n.Var ++ [58]) ++ n.Type_) ++ (91 :: (prin ++ [93])))))))
   else
    some (33 :: ((n.Var ++ [58]) ++ n.Type_)))
  else
   bif (ltB 0 (List.length n.Test : Int)) then
    (xZ4Q N n.Test).bind fun prin2 =>
    gd (Nat.ble (1 + (List.length prin2)) 9223372036854775807) (
    gd (Nat.ble ((List.length prin2 + 1) + 1) 9223372036854775807) (
    gd (Nat.ble ((List.length ((n.Var ++ [58]) ++ n.Type_)) + (List.length (prin2 ++ [93]) + 1)) 9223372036854775807) (
    some (((n.Var ++ [58]) ++ n.Type_) ++ (91 :: (prin2 ++ [93]))))))
   else
    some ((n.Var ++ [58]) ++ n.Type_)))
def xZj (N : Nat) (n : Int) : Option (List UInt8) :=
  (xZ56 N n).bind fun ofin =>
  (xZ4m N ofin).bind fun lite =>
  some lite
def xZ3F (N : Nat) (n : xZ2) : Option (List UInt8) :=
  bif (n.Hi == 1) then
   some [63]
  else
   bif (n.Hi == 0) then
    bif (n.Lo == 0) then
     some [42]
    else
     bif (n.Hi == 0) then
      bif (n.Lo == 1) then
       some [43]
      else
       bif (n.Hi == 0) then
        (xZj N n.Lo).bind fun digi =>
        gd (Nat.ble (1 + (List.length digi)) 9223372036854775807) (
        gd (Nat.ble ((List.length digi + 1) + 2) 9223372036854775807) (
        some (123 :: (digi ++ [44, 125]))))
       else
        bif (n.Hi == n.Lo) then
         (xZj N n.Lo).bind fun digi2 =>
         gd (Nat.ble (1 + (List.length digi2)) 9223372036854775807) (
         gd (Nat.ble ((List.length digi2 + 1) + 1) 9223372036854775807) (
         some (123 :: (digi2 ++ [125]))))
        else
         (xZj N n.Lo).bind fun digi3 =>
         gd (Nat.ble (1 + (List.length digi3)) 9223372036854775807) (
         gd (Nat.ble ((List.length digi3 + 1) + 1) 9223372036854775807) (
         (xZj N n.Hi).bind fun digi4 =>
         gd (Nat.ble ((List.length (digi3 ++ [44]) + 1) + (List.length digi4)) 9223372036854775807) (
         gd (Nat.ble ((List.length ((digi3 ++ [44]) ++ digi4) + 1) + 1) 9223372036854775807) (
         some (123 :: (((digi3 ++ [44]) ++ digi4) ++ [125]))))))
     else
      bif (n.Hi == 0) then
       (xZj N n.Lo).bind fun digi5 =>
       gd (Nat.ble (1 + (List.length digi5)) 9223372036854775807) (
       gd (Nat.ble ((List.length digi5 + 1) + 2) 9223372036854775807) (
       some (123 :: (digi5 ++ [44, 125]))))
      else
       bif (n.Hi == n.Lo) then
        (xZj N n.Lo).bind fun digi6 =>
        gd (Nat.ble (1 + (List.length digi6)) 9223372036854775807) (
        gd (Nat.ble ((List.length digi6 + 1) + 1) 9223372036854775807) (
        some (123 :: (digi6 ++ [125]))))
       else
        (xZj N n.Lo).bind fun digi7 =>
        gd (Nat.ble (1 + (List.length digi7)) 9223372036854775807) (
        gd (Nat.ble ((List.length digi7 + 1) + 1) 9223372036854775807) (
        (xZj N n.Hi).bind fun digi8 =>
        gd (Nat.ble ((List.length (digi7 ++ [44]) + 1) + (List.length digi8)) 9223372036854775807) (
        gd (Nat.ble ((List.length ((digi7 ++ [44]) ++ digi8) + 1) + 1) 9223372036854775807) (
        some (123 :: (((digi7 ++ [44]) ++ digi8) ++ [125]))))))
   else
    bif (n.Hi == 0) then
     bif (n.Lo == 1) then
      some [43]
     else
      bif (n.Hi == 0) then
       (xZj N n.Lo).bind fun digi9 =>
       gd (Nat.ble (1 + (List.length digi9)) 9223372036854775807) (
       gd (Nat.ble ((List.length digi9 + 1) + 2) 9223372036854775807) (
       some (123 :: (digi9 ++ [44, 125]))))
      else
       bif (n.Hi == n.Lo) then
        (xZj N n.Lo).bind fun digi10 =>
        gd (Nat.ble (1 + (List.length digi10)) 9223372036854775807) (
        gd (Nat.ble ((List.length digi10 + 1) + 1) 9223372036854775807) (
        some (123 :: (digi10 ++ [125]))))
       else
        (xZj N n.Lo).bind fun digi11 =>
        gd (Nat.ble (1 + (List.length digi11)) 9223372036854775807) (
        gd (Nat.ble ((List.length digi11 + 1) + 1) 9223372036854775807) (
        (xZj N n.Hi).bind fun digi12 =>
        gd (Nat.ble ((List.length (digi11 ++ [44]) + 1) + (List.length digi12)) 9223372036854775807) (
        gd (Nat.ble ((List.length ((digi11 ++ [44]) ++ digi12) + 1) + 1) 9223372036854775807) (
        some (123 :: (((digi11 ++ [44]) ++ digi12) ++ [125]))))))
    else
     bif (n.Hi == 0) then
      (xZj N n.Lo).bind fun digi13 =>
      gd (Nat.ble (1 + (List.length digi13)) 9223372036854775807) (
      gd (Nat.ble ((List.length digi13 + 1) + 2) 9223372036854775807) (
      some (123 :: (digi13 ++ [44, 125]))))
     else
      bif (n.Hi == n.Lo) then
       (xZj N n.Lo).bind fun digi14 =>
       gd (Nat.ble (1 + (List.length digi14)) 9223372036854775807) (
       gd (Nat.ble ((List.length digi14 + 1) + 1) 9223372036854775807) (
       some (123 :: (digi14 ++ [125]))))
      else
       (xZj N n.Lo).bind fun digi15 =>
       gd (Nat.ble (1 + (List.length digi15)) 9223372036854775807) (
       gd (Nat.ble ((List.length digi15 + 1) + 1) 9223372036854775807) (
       (xZj N n.Hi).bind fun digi16 =>
       gd (Nat.ble ((List.length (digi15 ++ [44]) + 1) + (List.length digi16)) 9223372036854775807) (
       gd (Nat.ble ((List.length ((digi15 ++ [44]) ++ digi16) + 1) + 1) 9223372036854775807) (
       some (123 :: (((digi15 ++ [44]) ++ digi16) ++ [125]))))))
abbrev xZ2G : Type := (Int → (List xZ2) → Int → (List UInt8) → Int → Int → Option (List UInt8 × List xZ2 × Int × List UInt8 × Int × Int))
def xZ16 (N : Nat) (p : xZ2G) (above : Int) (x : Int) (y11 : Int) (y12 : Int) (y13 : Int) (y14 : Int) (y15 : List UInt8) (y16 : List UInt8) (y17 : List xZ1) (next0 : (List UInt8) → (List UInt8) → Int → (List xZ2) → Int → (List UInt8) → Int → Int → Option (List UInt8 × List xZ2 × Int × List UInt8 × Int × Int)) (between : List UInt8) (s : List UInt8) (x2 : Int) (y6 : List xZ2) (y7 : Int) (y8 : List UInt8) (y9 : Int) (y10 : Int) : Option (List UInt8 × List xZ2 × Int × List UInt8 × Int × Int) :=
  bif (ltB x2 x) then
   (p y11 y6 y7 y8 y9 y10).bind fun l2 =>
   gd (Nat.ble ((List.length between) + (List.length l2.1)) 9223372036854775807) (
   gd (Nat.ble ((List.length s) + (List.length (between ++ l2.1))) 9223372036854775807) (
   gd (i64b (x2 + 1)) (
   next0 between (s ++ (between ++ l2.1)) (x2 + 1) l2.2.1 l2.2.2.1 l2.2.2.2.1 l2.2.2.2.2.1 l2.2.2.2.2.2)))
  else
   bif (y11 == 3) then
    (xZ3F N (xZ2.mk y11 y12 y13 y14 y15 y16 y17)).bind fun time =>
    gd (Nat.ble ((List.length s) + (List.length time)) 9223372036854775807) (
    bif (above == 3) then
     gd (Nat.ble (1 + (List.length (s ++ time))) 9223372036854775807) (
     gd (Nat.ble ((List.length (s ++ time) + 1) + 1) 9223372036854775807) (
     some ((40 :: ((s ++ time) ++ [41])), y6, y7, y8, y9, y10)))
    else
     bif (above == 1) then
      bif (y11 == 2) then
       gd (Nat.ble (1 + (List.length (s ++ time))) 9223372036854775807) (
       gd (Nat.ble ((List.length (s ++ time) + 1) + 1) 9223372036854775807) (
       some ((40 :: ((s ++ time) ++ [41])), y6, y7, y8, y9, y10)))
      else
       some ((s ++ time), y6, y7, y8, y9, y10)
     else
      some ((s ++ time), y6, y7, y8, y9, y10))
   else
    bif (above == 3) then
     gd (Nat.ble (1 + (List.length s)) 9223372036854775807) (
     gd (Nat.ble ((List.length s + 1) + 1) 9223372036854775807) (
     some ((40 :: (s ++ [41])), y6, y7, y8, y9, y10)))
    else
     bif (above == 1) then
      bif (y11 == 2) then
       gd (Nat.ble (1 + (List.length s)) 9223372036854775807) (
       gd (Nat.ble ((List.length s + 1) + 1) 9223372036854775807) (
       some ((40 :: (s ++ [41])), y6, y7, y8, y9, y10)))
      else
       some (s, y6, y7, y8, y9, y10)
     else
      some (s, y6, y7, y8, y9, y10)
def xZ15 (N : Nat) (p : xZ2G) (above : Int) (y : List xZ2) (y2 : Int) (y3 : List UInt8) (y4 : Int) (y5 : Int) : Option (List UInt8 × List xZ2 × Int × List UInt8 × Int × Int) :=
  (ix y y5).bind fun e =>
  gd (i64b (y5 + 1)) (
  (xZ10 N e).bind fun leaf =>
  bif leaf then
   (xZ47 N e).bind fun text =>
   some (text, y, y2, y3, y4, (y5 + 1))
  else
   bif (e.Kind == 2) then
    (p e.Kind y y2 y3 y4 (y5 + 1)).bind fun l =>
    (xZ2B N e).bind fun kids =>
    gd (i64b (kids - 1)) (
    lp8 (xZ16 N p above (kids - 1) e.Kind e.Kids e.Lo e.Hi e.Var e.Type_ e.Test) N [32, 124, 32] l.1 0 l.2.1 l.2.2.1 l.2.2.2.1 l.2.2.2.2.1 l.2.2.2.2.2)
   else
    (p e.Kind y y2 y3 y4 (y5 + 1)).bind fun l3 =>
    (xZ2B N e).bind fun kids2 =>
    gd (i64b (kids2 - 1)) (
    lp8 (xZ16 N p above (kids2 - 1) e.Kind e.Kids e.Lo e.Hi e.Var e.Type_ e.Test) N [59, 32] l3.1 0 l3.2.1 l3.2.2.1 l3.2.2.2.1 l3.2.2.2.2.1 l3.2.2.2.2.2))
def xZu (N : Nat) : xZ2G := Nat.rec (motive := fun _ => xZ2G) (fun _ _ _ _ _ _ => none) (fun N p => (xZ15 N p)) N
def xZ2V (N : Nat) (above : Int) (y : List xZ2) (y2 : Int) (y3 : List UInt8) (y4 : Int) (y5 : Int) : Option (List UInt8 × List xZ2 × Int × List UInt8 × Int × Int) := (xZu N) above y y2 y3 y4 y5
def xZ1z (N : Nat) (p : xZ5) : Option (List UInt8) :=
  (xZ4l N p).bind fun chec =>
  bif (chec != 0) then
   some []
  else
   both EqR.bytes (
    (xZ2V N 0 p.Body p.Within p.By p.Mode 0).bind fun l =>
    gd (Nat.ble ((List.length l.1) + 8) 9223372036854775807) (
    (xZj N l.2.2.1).bind fun digi =>
    gd (Nat.ble ((List.length (l.1 ++ [32, 119, 105, 116, 104, 105, 110, 32])) + (List.length digi)) 9223372036854775807) (
    bif (!(l.2.2.2.1 == [])) then
     gd (Nat.ble (4 + (List.length l.2.2.2.1)) 9223372036854775807) (
     gd (Nat.ble ((List.length ((l.1 ++ [32, 119, 105, 116, 104, 105, 110, 32]) ++ digi)) + (List.length l.2.2.2.1 + 4)) 9223372036854775807) (
     gd (Nat.ble ((List.length (((l.1 ++ [32, 119, 105, 116, 104, 105, 110, 32]) ++ digi) ++ (32 :: 98 :: 121 :: 32 :: l.2.2.2.1))) + 1) 9223372036854775807) (
     (xZ2T N l.2.2.2.2.1).bind fun word =>
     gd (Nat.ble ((List.length ((((l.1 ++ [32, 119, 105, 116, 104, 105, 110, 32]) ++ digi) ++ (32 :: 98 :: 121 :: 32 :: l.2.2.2.1)) ++ [32])) + (List.length word)) 9223372036854775807) (
     some (((((l.1 ++ [32, 119, 105, 116, 104, 105, 110, 32]) ++ digi) ++ (32 :: 98 :: 121 :: 32 :: l.2.2.2.1)) ++ [32]) ++ word)))))
    else
     gd (Nat.ble ((List.length ((l.1 ++ [32, 119, 105, 116, 104, 105, 110, 32]) ++ digi)) + 1) 9223372036854775807) (
     (xZ2T N l.2.2.2.2.1).bind fun word2 =>
     gd (Nat.ble ((List.length (((l.1 ++ [32, 119, 105, 116, 104, 105, 110, 32]) ++ digi) ++ [32])) + (List.length word2)) 9223372036854775807) (
     some ((((l.1 ++ [32, 119, 105, 116, 104, 105, 110, 32]) ++ digi) ++ [32]) ++ word2)))))) (
    (xZ2V N 0 p.Body p.Within p.By p.Mode 0).bind fun l2 =>
    gd (Nat.ble ((List.length l2.1) + 8) 9223372036854775807) (
    (xZj N p.Within).bind fun digi2 =>
    gd (Nat.ble ((List.length (l2.1 ++ [32, 119, 105, 116, 104, 105, 110, 32])) + (List.length digi2)) 9223372036854775807) (
    bif (!(l2.2.2.2.1 == [])) then
     gd (Nat.ble (4 + (List.length l2.2.2.2.1)) 9223372036854775807) (
     gd (Nat.ble ((List.length ((l2.1 ++ [32, 119, 105, 116, 104, 105, 110, 32]) ++ digi2)) + (List.length l2.2.2.2.1 + 4)) 9223372036854775807) (
     gd (Nat.ble ((List.length (((l2.1 ++ [32, 119, 105, 116, 104, 105, 110, 32]) ++ digi2) ++ (32 :: 98 :: 121 :: 32 :: l2.2.2.2.1))) + 1) 9223372036854775807) (
     (xZ2T N l2.2.2.2.2.1).bind fun word3 =>
     gd (Nat.ble ((List.length ((((l2.1 ++ [32, 119, 105, 116, 104, 105, 110, 32]) ++ digi2) ++ (32 :: 98 :: 121 :: 32 :: l2.2.2.2.1)) ++ [32])) + (List.length word3)) 9223372036854775807) (
     some (((((l2.1 ++ [32, 119, 105, 116, 104, 105, 110, 32]) ++ digi2) ++ (32 :: 98 :: 121 :: 32 :: l2.2.2.2.1)) ++ [32]) ++ word3)))))
    else
     gd (Nat.ble ((List.length ((l2.1 ++ [32, 119, 105, 116, 104, 105, 110, 32]) ++ digi2)) + 1) 9223372036854775807) (
     (xZ2T N l2.2.2.2.2.1).bind fun word4 =>
     gd (Nat.ble ((List.length (((l2.1 ++ [32, 119, 105, 116, 104, 105, 110, 32]) ++ digi2) ++ [32])) + (List.length word4)) 9223372036854775807) (
     some ((((l2.1 ++ [32, 119, 105, 116, 104, 105, 110, 32]) ++ digi2) ++ [32]) ++ word4))))))
def xZ4D (N : Nat) (e p : Int) : Option (Int × Int) := some (e, p)
def xZ5z (N : Nat) (err : Int) (err2 : Int) : Option Int :=
  (xZ4D N err err2).bind fun find =>
  some find.1
def xZgj (N : Nat) (err : Int) (err2 : Int) : Option Int :=
  (xZ4D N err err2).bind fun find =>
  some find.2
def xZ2e (N : Nat) : Option Bool := bif Nat.ble 300 N then some true else none
def xZ6x (N : Nat) (v : xZ4) : Option Int :=
  gd (i64b ((List.length v.Text : Int) - 100)) (
  some (max 0 ((List.length v.Text : Int) - 100)))
def xZ5o (N : Nat) (l : List xZ1) (next0 : Int → Option Int) (i : Int) : Option Int :=
  bif (ltB i (List.length l : Int)) then
   (ix l i).bind fun e =>
   bif (ltB 40 (List.length e.Var : Int)) then
    some 1
   else
    (ix l i).bind fun e2 =>
    bif (ltB 40 (List.length e2.Name : Int)) then
     some 1
    else
     (ix l i).bind fun e3 =>
     (xZ6x N e3.Val).bind fun smal =>
     bif (ltB 0 smal) then
      some 1
     else
      gd (i64b (i + 1)) (
      next0 (i + 1))
  else
   some 0
def xZ8w (N : Nat) (l : List xZ1) : Option Int :=
  bif (ltB 40 (List.length l : Int)) then
   some 1
  else
   lp1 (xZ5o N l) N 0
def xZ5x (N : Nat) (y : List xZ2) (next0 : Int → Option Int) (i : Int) : Option Int :=
  bif (ltB i (List.length y : Int)) then
   (ix y i).bind fun e =>
   bif (ltB 40 (List.length e.Var : Int)) then
    some 1
   else
    (ix y i).bind fun e2 =>
    bif (ltB 40 (List.length e2.Type_ : Int)) then
     some 1
    else
     (ix y i).bind fun e3 =>
     (xZ8w N e3.Test).bind fun over =>
     bif (ltB 0 over) then
      some 1
     else
      gd (i64b (i + 1)) (
      next0 (i + 1))
  else
   some 0
def xZ8n (N : Nat) (p : xZ5) : Option Int :=
  bif (ltB 50 (List.length p.Body : Int)) then
   some 1
  else
   bif (ltB 40 (List.length p.By : Int)) then
    some 1
   else
    lp1 (xZ5x N p.Body) N 0
def xZ6I (N : Nat) (l : List xZ1) (next0 : Int → (List xZ1) → Option (List xZ1)) (i : Int) (ys : List xZ1) : Option (List xZ1) :=
  bif (ltB i (List.length l : Int)) then
   (ix l i).bind fun e =>
   gd (Nat.ble ((List.length ys + 1) * 80) 140737488355328) (
   gd (i64b (i + 1)) (
   next0 (i + 1) (ys ++ [e])))
  else
   some ys
def xZ9r (N : Nat) (l : List xZ1) : Option (List xZ1) :=
  lp2 (xZ6I N l) N 0 []
def xZ6t (N : Nat) (y : List xZ2) (y5 : Int) (y6 : List UInt8) (y7 : Int) (next0 : Int → (List xZ2) → Option xZ5) (i : Int) (ys : List xZ2) : Option xZ5 :=
  bif (ltB i (List.length y : Int)) then
   (ix y i).bind fun e =>
   (xZ9r N e.Test).bind fun own =>
   gd (Nat.ble ((List.length ys + 1) * 88) 140737488355328) (
   gd (i64b (i + 1)) (
   next0 (i + 1) (ys ++ [(xZ2.mk e.Kind e.Kids e.Lo e.Hi e.Var e.Type_ own)])))
  else
   some (xZ5.mk ys y5 y6 y7)
def xZ9q (N : Nat) (p : xZ5) : Option xZ5 :=
  lp2 (xZ6t N p.Body p.Within p.By p.Mode) N 0 []
def xZ1T (N : Nat) (s1 : List xZ1) (s2 : List xZ1) (x : Int) (next0 : Int → Option Bool) (x2 : Int) : Option Bool :=
  bif (ltB x2 x) then
   (ix s1 x2).bind fun e =>
   (ix s2 x2).bind fun e2 =>
   bif (!((e.Kind == e2.Kind) && ((e.Op == e2.Op) && ((e.Var == e2.Var) && ((e.Name == e2.Name) && ((e.Val.Kind == e2.Val.Kind) && ((e.Val.N == e2.Val.N) && ((e.Val.Bits == e2.Val.Bits) && (e.Val.Text == e2.Val.Text))))))))) then
    some false
   else
    gd (i64b (x2 + 1)) (
    next0 (x2 + 1))
  else
   some true
def xZ3a (N : Nat) (s1 : List xZ1) (s2 : List xZ1) : Option Bool :=
  bif ((List.length s1 : Int) != (List.length s2 : Int)) then
   some false
  else
   lp1 (xZ1T N s1 s2 (List.length s1 : Int)) N 0
def xZ7E (N : Nat) (va : List xZ1) (b : List xZ1) : Option Bool :=
  (xZ3a N va b).bind fun node =>
  some node
def xZa0 (N : Nat) (va : xZ2) (b : xZ2) : Option Bool :=
  bif (va.Kind == b.Kind) then
   bif (va.Kids == b.Kids) then
    bif (va.Lo == b.Lo) then
     bif (va.Hi == b.Hi) then
      bif (va.Var == b.Var) then
       bif (va.Type_ == b.Type_) then
        (xZ7E N va.Test b.Test).bind fun same =>
        some same
       else
        some false
      else
       some false
     else
      some false
    else
     some false
   else
    some false
  else
   some false
def xZM (N : Nat) (s2 : List xZ2) (s1 : List xZ2) (x : Int) (next0 : Int → Option Bool) (x2 : Int) : Option Bool :=
  bif (ltB x2 x) then
   (ix s1 x2).bind fun e =>
   (ix s2 x2).bind fun e2 =>
   (xZa0 N e e2).bind fun same =>
   bif (!same) then
    some false
   else
    gd (i64b (x2 + 1)) (
    next0 (x2 + 1))
  else
   some true
def xZ1p (N : Nat) (s1 : List xZ2) (s2 : List xZ2) : Option Bool :=
  bif ((List.length s1 : Int) != (List.length s2 : Int)) then
   some false
  else
   lp1 (xZM N s2 s1 (List.length s1 : Int)) N 0
def xZ5F (N : Nat) (va : xZ5) (b : xZ5) : Option Bool :=
  bif (va.Within == b.Within) then
   bif (va.By == b.By) then
    bif (va.Mode == b.Mode) then
     (xZ1p N va.Body b.Body).bind fun node =>
     some node
    else
     some false
   else
    some false
  else
   some false
def xZ33 (N : Nat) (n : Int) (rest : List UInt8) (y : List xZ2) (y2 : Int) (y3 : List UInt8) (y4 : Int) (next0 : (List UInt8) → Int → Option Bool) (body : List UInt8) (i : Int) : Option Bool :=
  bif (ltB i (IntKind.i64.wrap (Int.tmod n 9))) then
   gd (Nat.ble (1 + (List.length body)) 9223372036854775807) (
   gd (Nat.ble ((List.length body + 1) + 2) 9223372036854775807) (
   gd (i64b (i + 1)) (
   next0 (40 :: (body ++ [32, 41])) (i + 1))))
  else
   gd (Nat.ble ((List.length body) + (List.length rest)) 9223372036854775807) (
   (xZ50 N (body ++ rest)).bind fun x => Sum.elim
   (fun pars =>
    (xZ5F N pars (xZ5.mk y y2 y3 y4)).bind fun same =>
    bif same then
     (xZ2e N).bind fun awak4 =>
     some awak4
    else
     some false)
   (fun pars2 =>
    (xZ5z N pars2.2.1 pars2.2.2).bind fun code =>
    bif (code == 7) then
     (xZ2e N).bind fun awak5 =>
     some awak5
    else
     (xZ5z N pars2.2.1 pars2.2.2).bind fun code2 =>
     bif (code2 == 15) then
      (xZ2e N).bind fun awak6 =>
      some awak6
     else
      some false) x)
def xZ2p (N : Nat) (p : xZ5) (n : Int) : Option Bool :=
  (xZ8n N p).bind fun over =>
  bif (ltB 0 over) then
   (xZ2e N).bind fun awak =>
   some awak
  else
   (xZ9q N p).bind fun own =>
   (xZ1z N own).bind fun prin =>
   (xZ1z N (xZ5.mk [(xZ2.mk 4 0 0 0 [97] [98] [])] own.Within own.By own.Mode)).bind fun prin2 =>
   gd (i64b ((List.length prin : Int) - (List.length prin2 : Int))) (
   gd (i64b (((List.length prin : Int) - (List.length prin2 : Int)) + 3)) (
   (xZ4l N own).bind fun chec =>
   bif (chec != 0) then
    (xZ2e N).bind fun awak2 =>
    some awak2
   else
    bif (ltB 500 (List.length prin : Int)) then
     (xZ2e N).bind fun awak3 =>
     some awak3
    else
     bif (ltB (((List.length prin : Int) - (List.length prin2 : Int)) + 3) 0) then
      some false
     else
      bif (ltB (List.length prin : Int) (((List.length prin : Int) - (List.length prin2 : Int)) + 3)) then
       some false
      else
       gd (leB 0 (((List.length prin : Int) - (List.length prin2 : Int)) + 3)) (
       gd (leB (((List.length prin : Int) - (List.length prin2 : Int)) + 3) (List.length prin : Int)) (
       gd (leB 0 (((List.length prin : Int) - (List.length prin2 : Int)) + 3)) (
       gd (leB (((List.length prin : Int) - (List.length prin2 : Int)) + 3) (List.length prin : Int)) (
       lp2 (xZ33 N n (List.drop (Int.toNat (((List.length prin : Int) - (List.length prin2 : Int)) + 3)) prin) own.Body own.Within own.By own.Mode) N (List.take (Int.toNat (((List.length prin : Int) - (List.length prin2 : Int)) + 3)) prin) 0))))))
def xZg9 (N : Nat) (op : Int) : Option (List UInt8) :=
  bif (ltB 6 op) then
   some []
  else
   (ix ([[], [61], [33, 61], [60], [60, 61], [62], [62, 61]] : List (List UInt8)) op).bind fun e =>
   (ix ([[], [61], [33, 61], [60], [60, 61], [62], [62, 61]] : List (List UInt8)) op).bind fun e2 =>
   some e2
end
end
end Go.Proofs.YtahklhniofiofaaGreatDoor.K
