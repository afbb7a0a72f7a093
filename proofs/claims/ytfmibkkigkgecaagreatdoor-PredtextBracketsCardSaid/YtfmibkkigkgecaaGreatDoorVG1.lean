/- The code, and what each function of it is walked to. No premise beyond what each theorem says. -/
import Derived.Test.YtfmibkkigkgecaaGreatDoorVA3
import Derived.Test.YtfmibkkigkgecaaGreatDoorProg
set_option linter.all false
set_option linter.unusedSimpArgs false
set_option linter.unusedVariables false
namespace Go.Proofs.YtfmibkkigkgecaaGreatDoor.V
open Go
section
open Go.Proofs.Tryz
set_option maxRecDepth 1000000
noncomputable section
structure value_Value where
  Kind : Int
  N : Int
  Bits : Int
  Text : List UInt8
structure lex_Token where
  Kind : Int
  At : Int
  Text : List UInt8
  Val : value_Value
structure pred_Node where
  Kind : Int
  Op : Int
  Var : List UInt8
  Name : List UInt8
  Val : value_Value
structure fault_Fault where
  E : Int
  At : Int
structure ref12_State where
  L : List lex_Token
  At : Int
  End : Int
  F : fault_Fault
def s_fault_New (N : Nat) (e p : Int) : Option (Unit ⊕ (Int × Int)) := bif e == 0 then some (.inl ()) else some (.inr (e, p))
def s_lex_small (N : Nat) (c : Int) : Option Bool :=
  bif (leB 97 c) then
   some (leB c 122)
  else
   some false
def s_lex_scanner_fail_v359 (N : Nat) (e : Int) (y : List UInt8) (y2 : Int) (xs : List lex_Token) : Option ((List UInt8 × Int × List lex_Token) ⊕ (Int × Int × List UInt8 × Int × List lex_Token)) :=
  (s_fault_New N e y2).bind fun x => Sum.elim
  (fun new =>
   some (Sum.inl (y, y2, xs)))
  (fun new2 =>
   some (Sum.inr (new2.1, new2.2, y, y2, xs))) x
def s_lex_digit (N : Nat) (c : Int) : Option Bool :=
  bif (leB 48 c) then
   some (leB c 57)
  else
   some false
def s_lex_tail (N : Nat) (c : Int) : Option Bool :=
  (s_lex_small N c).bind fun smal =>
  bif smal then
   some true
  else
   (s_lex_digit N c).bind fun digi =>
   bif digi then
    some true
   else
    some (c == 95)
def s_lex_scanner_length_v869_1 (N : Nat) (y : List UInt8) (y2 : Int) (xs : List lex_Token) (next0 : Int → Option (Int × List UInt8 × Int × List lex_Token)) (n : Int) : Option (Int × List UInt8 × Int × List lex_Token) :=
  gd (i64b (y2 + n)) (
  bif (ltB (y2 + n) (List.length y : Int)) then
   gd (i64b (y2 + n)) (
   (ix y (y2 + n)).bind fun c =>
   (s_lex_tail N (UInt8.toNat c : Int)).bind fun tail =>
   bif tail then
    gd (i64b (n + 1)) (
    next0 (n + 1))
   else
    some (n, y, y2, xs))
  else
   some (n, y, y2, xs))
def s_lex_scanner_length_v869 (N : Nat) (y : List UInt8) (y2 : Int) (xs : List lex_Token) : Option (Int × List UInt8 × Int × List lex_Token) :=
  lp1 (s_lex_scanner_length_v869_1 N y y2 xs) N 0
def s_value_OfFlag (N : Nat) (is : Bool) : Option value_Value :=
  bif is then
   some (value_Value.mk 2 1 0 [])
  else
   some (value_Value.mk 2 0 0 [])
def s_lex_scanner_put_v420 (N : Nat) (n : Int) (kind : Int) (text : List UInt8) (v : value_Value) (y : List UInt8) (y2 : Int) (xs : List lex_Token) : Option (List UInt8 × Int × List lex_Token) :=
  gd (Nat.ble ((List.length xs + 1) * 72) 140737488355328) (
  gd (i64b (y2 + n)) (
  some (y, (y2 + n), (xs ++ [(lex_Token.mk kind y2 text v)]))))
def s_schema_Reserved (N : Nat) (s : List UInt8) : Option Bool :=
  bif (s == [119, 105, 116, 104, 105, 110]) then
   bif (s == [119, 105, 116, 104, 105, 110]) then
    some true
   else
    some false
  else
   bif (s == [98, 121]) then
    bif (s == [98, 121]) then
     some true
    else
     some false
   else
    bif (s == [97, 110, 100]) then
     bif (s == [97, 110, 100]) then
      some true
     else
      some false
    else
     bif (s == [111, 114]) then
      bif (s == [111, 114]) then
       some true
      else
       some false
     else
      bif (s == [110, 111, 116]) then
       bif (s == [110, 111, 116]) then
        some true
       else
        some false
      else
       bif (s == [97, 110, 121]) then
        bif (s == [97, 110, 121]) then
         some true
        else
         some false
       else
        bif (s == [110, 101, 120, 116]) then
         bif (s == [110, 101, 120, 116]) then
          some true
         else
          some false
        else
         bif (s == [115, 116, 114, 105, 99, 116]) then
          bif (s == [115, 116, 114, 105, 99, 116]) then
           some true
          else
           some false
         else
          bif (s == [116, 114, 117, 101]) then
           bif (s == [116, 114, 117, 101]) then
            some true
           else
            some false
          else
           bif (s == [102, 97, 108, 115, 101]) then
            some true
           else
            some false
def s_lex_scanner_word_v558 (N : Nat) (y : List UInt8) (y2 : Int) (xs : List lex_Token) : Option ((List UInt8 × Int × List lex_Token) ⊕ (List UInt8 × Int × List lex_Token) ⊕ (Int × Int × List UInt8 × Int × List lex_Token)) :=
  (s_lex_scanner_length_v869 N y y2 xs).bind fun leng =>
  gd (i64b (leng.2.2.1 + leng.1)) (
  gd (leB 0 leng.2.2.1) (
  gd (leB leng.2.2.1 (leng.2.2.1 + leng.1)) (
  gd (leB (leng.2.2.1 + leng.1) (List.length leng.2.1 : Int)) (
  bif ((List.drop (Int.toNat leng.2.2.1) (List.take (Int.toNat (leng.2.2.1 + leng.1)) leng.2.1)) == [116, 114, 117, 101]) then
   (s_value_OfFlag N ((List.drop (Int.toNat leng.2.2.1) (List.take (Int.toNat (leng.2.2.1 + leng.1)) leng.2.1)) == [116, 114, 117, 101])).bind fun offl =>
   (s_lex_scanner_put_v420 N leng.1 3 [] offl leng.2.1 leng.2.2.1 leng.2.2.2).bind fun put =>
   some (Sum.inl (put.1, put.2.1, put.2.2))
  else
   bif ((List.drop (Int.toNat leng.2.2.1) (List.take (Int.toNat (leng.2.2.1 + leng.1)) leng.2.1)) == [102, 97, 108, 115, 101]) then
    (s_value_OfFlag N ((List.drop (Int.toNat leng.2.2.1) (List.take (Int.toNat (leng.2.2.1 + leng.1)) leng.2.1)) == [116, 114, 117, 101])).bind fun offl2 =>
    (s_lex_scanner_put_v420 N leng.1 3 [] offl2 leng.2.1 leng.2.2.1 leng.2.2.2).bind fun put2 =>
    some (Sum.inl (put2.1, put2.2.1, put2.2.2))
   else
    (s_schema_Reserved N (List.drop (Int.toNat leng.2.2.1) (List.take (Int.toNat (leng.2.2.1 + leng.1)) leng.2.1))).bind fun rese =>
    bif rese then
     (s_lex_scanner_put_v420 N leng.1 2 (List.drop (Int.toNat leng.2.2.1) (List.take (Int.toNat (leng.2.2.1 + leng.1)) leng.2.1)) (value_Value.mk 0 0 0 []) leng.2.1 leng.2.2.1 leng.2.2.2).bind fun put3 =>
     some (Sum.inl (put3.1, put3.2.1, put3.2.2))
    else
     bif (ltB 12 leng.1) then
      (s_lex_scanner_fail_v359 N 5 leng.2.1 leng.2.2.1 leng.2.2.2).bind fun x => Sum.elim
      (fun fail =>
       some (Sum.inr (Sum.inl (fail.1, fail.2.1, fail.2.2))))
      (fun fail2 =>
       some (Sum.inr (Sum.inr (fail2.1, fail2.2.1, fail2.2.2.1, fail2.2.2.2.1, fail2.2.2.2.2)))) x
     else
      (s_lex_scanner_put_v420 N leng.1 1 (List.drop (Int.toNat leng.2.2.1) (List.take (Int.toNat (leng.2.2.1 + leng.1)) leng.2.1)) (value_Value.mk 0 0 0 []) leng.2.1 leng.2.2.1 leng.2.2.2).bind fun put4 =>
      some (Sum.inl (put4.1, put4.2.1, put4.2.2))))))
def s_lex_scanner_length_v416_1 (N : Nat) (y : List UInt8) (y2 : Int) (xs : List lex_Token) (next0 : Int → Option (Int × List UInt8 × Int × List lex_Token)) (n : Int) : Option (Int × List UInt8 × Int × List lex_Token) :=
  gd (i64b (y2 + n)) (
  bif (ltB (y2 + n) (List.length y : Int)) then
   gd (i64b (y2 + n)) (
   (ix y (y2 + n)).bind fun c =>
   (s_lex_digit N (UInt8.toNat c : Int)).bind fun digi =>
   bif digi then
    gd (i64b (n + 1)) (
    next0 (n + 1))
   else
    some (n, y, y2, xs))
  else
   some (n, y, y2, xs))
def s_lex_scanner_length_v416 (N : Nat) (y : List UInt8) (y2 : Int) (xs : List lex_Token) : Option (Int × List UInt8 × Int × List lex_Token) :=
  lp1 (s_lex_scanner_length_v416_1 N y y2 xs) N 0
def s_value_OfInt (N : Nat) (n : Int) : Option value_Value :=
  some (value_Value.mk 1 (max (-4611686018427387904) (min n 4611686018427387904)) 0 [])
def s_lex_scanner_number_v558_1 (N : Nat) (n : Int) (x : Int) (y3 : List UInt8) (y4 : Int) (ys : List lex_Token) (next0 : Int → Int → Option ((List UInt8 × Int × List lex_Token) ⊕ (Int × Int × List UInt8 × Int × List lex_Token) ⊕ (List UInt8 × Int × List lex_Token))) (v : Int) (x2 : Int) : Option ((List UInt8 × Int × List lex_Token) ⊕ (Int × Int × List UInt8 × Int × List lex_Token) ⊕ (List UInt8 × Int × List lex_Token)) :=
  bif (ltB x2 x) then
   gd (i64b (y4 + x2)) (
   (ix y3 (y4 + x2)).bind fun c2 =>
   gd (i64b (4611686018427387904 - (IntKind.i64.wrap (IntKind.u8.wrap ((UInt8.toNat c2 : Int) - 48))))) (
   bif (ltB (IntKind.i64.wrap (Int.tdiv (4611686018427387904 - (IntKind.i64.wrap (IntKind.u8.wrap ((UInt8.toNat c2 : Int) - 48)))) 10)) v) then
    (s_lex_scanner_fail_v359 N 8 y3 y4 ys).bind fun x => Sum.elim
    (fun fail3 =>
     some (Sum.inl (fail3.1, fail3.2.1, fail3.2.2)))
    (fun fail4 =>
     some (Sum.inr (Sum.inl (fail4.1, fail4.2.1, fail4.2.2.1, fail4.2.2.2.1, fail4.2.2.2.2)))) x
   else
    gd (i64b (v * 10)) (
    gd (i64b ((v * 10) + (IntKind.i64.wrap (IntKind.u8.wrap ((UInt8.toNat c2 : Int) - 48))))) (
    gd (i64b (x2 + 1)) (
    next0 ((v * 10) + (IntKind.i64.wrap (IntKind.u8.wrap ((UInt8.toNat c2 : Int) - 48)))) (x2 + 1))))))
  else
   (s_value_OfInt N v).bind fun ofin =>
   (s_lex_scanner_put_v420 N n 3 [] ofin y3 y4 ys).bind fun put =>
   some (Sum.inr (Sum.inr (put.1, put.2.1, put.2.2)))
def s_lex_scanner_number_v558 (N : Nat) (y : List UInt8) (y2 : Int) (xs : List lex_Token) : Option ((List UInt8 × Int × List lex_Token) ⊕ (Int × Int × List UInt8 × Int × List lex_Token) ⊕ (List UInt8 × Int × List lex_Token)) :=
  (s_lex_scanner_length_v416 N y y2 xs).bind fun leng =>
  bif (ltB 1 leng.1) then
   (ix leng.2.1 leng.2.2.1).bind fun c =>
   bif ((UInt8.toNat c : Int) == 48) then
    (s_lex_scanner_fail_v359 N 4 leng.2.1 leng.2.2.1 leng.2.2.2).bind fun x => Sum.elim
    (fun fail =>
     some (Sum.inl (fail.1, fail.2.1, fail.2.2)))
    (fun fail2 =>
     some (Sum.inr (Sum.inl (fail2.1, fail2.2.1, fail2.2.2.1, fail2.2.2.2.1, fail2.2.2.2.2)))) x
   else
    lp2 (s_lex_scanner_number_v558_1 N leng.1 leng.1 leng.2.1 leng.2.2.1 leng.2.2.2) N 0 0
  else
   lp2 (s_lex_scanner_number_v558_1 N leng.1 leng.1 leng.2.1 leng.2.2.1 leng.2.2.2) N 0 0
def s_stringslite_IndexByte (N : Nat) (s : List UInt8) (c : Int) : Option Int :=
  some (Lib.indexByte s (UInt8.ofNat (Int.toNat c)))
def s_strings_IndexByte (N : Nat) (s : List UInt8) (c : Int) : Option Int :=
  (s_stringslite_IndexByte N s c).bind fun inde =>
  some inde
def s_lex_base16 (N : Nat) (c : Int) : Option Int :=
  (s_strings_IndexByte N [48, 49, 50, 51, 52, 53, 54, 55, 56, 57, 97, 98, 99, 100, 101, 102] c).bind fun inde =>
  some inde
def s_real_of (N : Nat) (u : Int) : Option Nat :=
  some (Int.toNat u)
def s_real_Clean (N : Nat) (u : Int) : Option Int :=
  (s_real_of N u).bind fun of =>
  bif (fcmpB .neq .f64 of of) then
   some 9221120237041090560
  else
   some u
def s_value_OfReal (N : Nat) (bits : Int) : Option value_Value :=
  (s_real_Clean N bits).bind fun clea =>
  some (value_Value.mk 3 0 clea [])
def s_lex_scanner_double_v558_1 (N : Nat) (y : List UInt8) (y2 : Int) (xs : List lex_Token) (next0 : Int → Int → Option ((List UInt8 × Int × List lex_Token) ⊕ (Int × Int × List UInt8 × Int × List lex_Token) ⊕ (List UInt8 × Int × List lex_Token))) (u : Int) (x : Int) : Option ((List UInt8 × Int × List lex_Token) ⊕ (Int × Int × List UInt8 × Int × List lex_Token) ⊕ (List UInt8 × Int × List lex_Token)) :=
  bif (ltB x 16) then
   gd (i64b (y2 + 1)) (
   gd (i64b ((y2 + 1) + x)) (
   (ix y ((y2 + 1) + x)).bind fun c =>
   (s_lex_base16 N (UInt8.toNat c : Int)).bind fun base =>
   bif (ltB base 0) then
    (s_lex_scanner_fail_v359 N 4 y y2 xs).bind fun x => Sum.elim
    (fun fail3 =>
     some (Sum.inl (fail3.1, fail3.2.1, fail3.2.2)))
    (fun fail4 =>
     some (Sum.inr (Sum.inl (fail4.1, fail4.2.1, fail4.2.2.1, fail4.2.2.2.1, fail4.2.2.2.2)))) x
   else
    gd (i64b (x + 1)) (
    next0 (bwO .u64 (IntKind.u64.wrap (u * 2 ^ 4)) (IntKind.u64.wrap base)) (x + 1))))
  else
   (s_real_Clean N u).bind fun clea =>
   bif (clea != u) then
    (s_lex_scanner_fail_v359 N 4 y y2 xs).bind fun x => Sum.elim
    (fun fail5 =>
     some (Sum.inl (fail5.1, fail5.2.1, fail5.2.2)))
    (fun fail6 =>
     some (Sum.inr (Sum.inl (fail6.1, fail6.2.1, fail6.2.2.1, fail6.2.2.2.1, fail6.2.2.2.2)))) x
   else
    (s_value_OfReal N u).bind fun ofre =>
    (s_lex_scanner_put_v420 N 17 3 [] ofre y y2 xs).bind fun put =>
    some (Sum.inr (Sum.inr (put.1, put.2.1, put.2.2)))
def s_lex_scanner_double_v558 (N : Nat) (y : List UInt8) (y2 : Int) (xs : List lex_Token) : Option ((List UInt8 × Int × List lex_Token) ⊕ (Int × Int × List UInt8 × Int × List lex_Token) ⊕ (List UInt8 × Int × List lex_Token)) :=
  gd (i64b ((List.length y : Int) - y2)) (
  bif (leB ((List.length y : Int) - y2) 16) then
   (s_lex_scanner_fail_v359 N 4 y y2 xs).bind fun x => Sum.elim
   (fun fail =>
    some (Sum.inl (fail.1, fail.2.1, fail.2.2)))
   (fun fail2 =>
    some (Sum.inr (Sum.inl (fail2.1, fail2.2.1, fail2.2.2.1, fail2.2.2.2.1, fail2.2.2.2.2)))) x
  else
   lp2 (s_lex_scanner_double_v558_1 N y y2 xs) N 0 0)
def s_lex_scanner_escaped_v359 (N : Nat) (vat : Int) (y : List UInt8) (y2 : Int) (xs : List lex_Token) : Option (Int × Bool × List UInt8 × Int × List lex_Token) :=
  gd (i64b ((List.length y : Int) - vat)) (
  bif (ltB ((List.length y : Int) - vat) 2) then
   some (0, false, y, y2, xs)
  else
   (ix y vat).bind fun c =>
   (s_lex_base16 N (UInt8.toNat c : Int)).bind fun base =>
   gd (i64b (vat + 1)) (
   (ix y (vat + 1)).bind fun c2 =>
   (s_lex_base16 N (UInt8.toNat c2 : Int)).bind fun base2 =>
   bif (leB 0 base) then
    some ((IntKind.u8.wrap (bwO .i64 (IntKind.i64.wrap (base * 2 ^ 4)) (bwA .i64 base2 15))), (leB 0 base2), y, y2, xs)
   else
    some ((IntKind.u8.wrap (bwO .i64 (IntKind.i64.wrap (base * 2 ^ 4)) (bwA .i64 base2 15))), false, y, y2, xs)))
def s_value_OfText (N : Nat) (s : List UInt8) : Option value_Value :=
  bif (ltB 24 (List.length s : Int)) then
   gd (leB 24 (List.length s : Int)) (
   some (value_Value.mk 4 0 0 (List.take 24 s)))
  else
   some (value_Value.mk 4 0 0 s)
def s_lex_scanner_quoted_v558_1 (N : Nat) (next0 : Int → (List UInt8) → Int → (List lex_Token) → (List Int) → Option ((List UInt8 × Int × List lex_Token) ⊕ (Int × Int × List UInt8 × Int × List lex_Token) ⊕ (List UInt8 × Int × List lex_Token))) (i : Int) (y3 : List UInt8) (y4 : Int) (ys : List lex_Token) (ys2 : List Int) : Option ((List UInt8 × Int × List lex_Token) ⊕ (Int × Int × List UInt8 × Int × List lex_Token) ⊕ (List UInt8 × Int × List lex_Token)) :=
  bif (ltB i (List.length y3 : Int)) then
   (ix y3 i).bind fun c =>
   bif (ltB (UInt8.toNat c : Int) 32) then
    (s_fault_New N 10 i).bind fun x => Sum.elim
    (fun new =>
     some (Sum.inl (y3, y4, ys)))
    (fun new2 =>
     some (Sum.inr (Sum.inl (new2.1, new2.2, y3, y4, ys)))) x
   else
    bif (ltB 126 (UInt8.toNat c : Int)) then
     (s_fault_New N 10 i).bind fun x => Sum.elim
     (fun new3 =>
      some (Sum.inl (y3, y4, ys)))
     (fun new4 =>
      some (Sum.inr (Sum.inl (new4.1, new4.2, y3, y4, ys)))) x
    else
     bif ((UInt8.toNat c : Int) == 92) then
      gd (i64b (i + 1)) (
      (s_lex_scanner_escaped_v359 N (i + 1) y3 y4 ys).bind fun esca =>
      bif (!esca.2.1) then
       (s_fault_New N 4 i).bind fun x => Sum.elim
       (fun new5 =>
        some (Sum.inl (esca.2.2.1, esca.2.2.2.1, esca.2.2.2.2)))
       (fun new6 =>
        some (Sum.inr (Sum.inl (new6.1, new6.2, esca.2.2.1, esca.2.2.2.1, esca.2.2.2.2)))) x
      else
       gd (Nat.ble ((List.length ys2 + 1) * 1) 140737488355328) (
       gd (i64b (i + 3)) (
       next0 (i + 3) esca.2.2.1 esca.2.2.2.1 esca.2.2.2.2 (ys2 ++ [esca.1]))))
     else
      bif ((UInt8.toNat c : Int) != 39) then
       gd (Nat.ble ((List.length ys2 + 1) * 1) 140737488355328) (
       gd (i64b (i + 1)) (
       next0 (i + 1) y3 y4 ys (ys2 ++ [(UInt8.toNat c : Int)])))
      else
       gd (i64b (i + 1)) (
       bif (ltB (i + 1) (List.length y3 : Int)) then
        gd (i64b (i + 1)) (
        (ix y3 (i + 1)).bind fun c2 =>
        bif ((UInt8.toNat c2 : Int) == 39) then
         gd (Nat.ble ((List.length ys2 + 1) * 1) 140737488355328) (
         gd (i64b (i + 2)) (
         next0 (i + 2) y3 y4 ys (ys2 ++ [(UInt8.toNat c : Int)])))
        else
         bif (ltB 24 (List.length ys2 : Int)) then
          (s_lex_scanner_fail_v359 N 5 y3 y4 ys).bind fun x => Sum.elim
          (fun fail =>
           some (Sum.inl (fail.1, fail.2.1, fail.2.2)))
          (fun fail2 =>
           some (Sum.inr (Sum.inl (fail2.1, fail2.2.1, fail2.2.2.1, fail2.2.2.2.1, fail2.2.2.2.2)))) x
         else
          gd (i64b (i + 1)) (
          gd (i64b ((i + 1) - y4)) (
          (s_value_OfText N (byS ys2)).bind fun ofte =>
          (s_lex_scanner_put_v420 N ((i + 1) - y4) 3 [] ofte y3 y4 ys).bind fun put =>
          some (Sum.inr (Sum.inr (put.1, put.2.1, put.2.2))))))
       else
        bif (ltB 24 (List.length ys2 : Int)) then
         (s_lex_scanner_fail_v359 N 5 y3 y4 ys).bind fun x => Sum.elim
         (fun fail3 =>
          some (Sum.inl (fail3.1, fail3.2.1, fail3.2.2)))
         (fun fail4 =>
          some (Sum.inr (Sum.inl (fail4.1, fail4.2.1, fail4.2.2.1, fail4.2.2.2.1, fail4.2.2.2.2)))) x
        else
         gd (i64b (i + 1)) (
         gd (i64b ((i + 1) - y4)) (
         (s_value_OfText N (byS ys2)).bind fun ofte2 =>
         (s_lex_scanner_put_v420 N ((i + 1) - y4) 3 [] ofte2 y3 y4 ys).bind fun put2 =>
         some (Sum.inr (Sum.inr (put2.1, put2.2.1, put2.2.2))))))
  else
   (s_lex_scanner_fail_v359 N 3 y3 y4 ys).bind fun x => Sum.elim
   (fun fail5 =>
    some (Sum.inl (fail5.1, fail5.2.1, fail5.2.2)))
   (fun fail6 =>
    some (Sum.inr (Sum.inl (fail6.1, fail6.2.1, fail6.2.2.1, fail6.2.2.2.1, fail6.2.2.2.2)))) x
def s_lex_scanner_quoted_v558 (N : Nat) (y : List UInt8) (y2 : Int) (xs : List lex_Token) : Option ((List UInt8 × Int × List lex_Token) ⊕ (Int × Int × List UInt8 × Int × List lex_Token) ⊕ (List UInt8 × Int × List lex_Token)) :=
  gd (i64b (y2 + 1)) (
  lp5 (s_lex_scanner_quoted_v558_1 N) N (y2 + 1) y y2 xs [])
def s_lex_scanner_sign_v558 (N : Nat) (y : List UInt8) (y2 : Int) (xs : List lex_Token) : Option (List UInt8 × Int × List lex_Token) :=
  (ix y y2).bind fun c =>
  (s_strings_IndexByte N [33, 60, 62] (UInt8.toNat c : Int)).bind fun inde =>
  bif (leB 0 inde) then
   gd (i64b (y2 + 1)) (
   bif (ltB (y2 + 1) (List.length y : Int)) then
    gd (i64b (y2 + 1)) (
    (ix y (y2 + 1)).bind fun c2 =>
    bif ((UInt8.toNat c2 : Int) == 61) then
     gd (i64b (y2 + 2)) (
     gd (leB 0 y2) (
     gd (leB y2 (y2 + 2)) (
     gd (leB (y2 + 2) (List.length y : Int)) (
     (s_lex_scanner_put_v420 N 2 4 (List.drop (Int.toNat y2) (List.take (Int.toNat (y2 + 2)) y)) (value_Value.mk 0 0 0 []) y y2 xs).bind fun put =>
     some (put.1, put.2.1, put.2.2)))))
    else
     gd (i64b (y2 + 1)) (
     gd (leB 0 y2) (
     gd (leB y2 (y2 + 1)) (
     gd (leB (y2 + 1) (List.length y : Int)) (
     (s_lex_scanner_put_v420 N 1 4 (List.drop (Int.toNat y2) (List.take (Int.toNat (y2 + 1)) y)) (value_Value.mk 0 0 0 []) y y2 xs).bind fun put2 =>
     some (put2.1, put2.2.1, put2.2.2))))))
   else
    gd (i64b (y2 + 1)) (
    gd (leB 0 y2) (
    gd (leB y2 (y2 + 1)) (
    gd (leB (y2 + 1) (List.length y : Int)) (
    (s_lex_scanner_put_v420 N 1 4 (List.drop (Int.toNat y2) (List.take (Int.toNat (y2 + 1)) y)) (value_Value.mk 0 0 0 []) y y2 xs).bind fun put3 =>
    some (put3.1, put3.2.1, put3.2.2))))))
  else
   gd (i64b (y2 + 1)) (
   gd (leB 0 y2) (
   gd (leB y2 (y2 + 1)) (
   gd (leB (y2 + 1) (List.length y : Int)) (
   (s_lex_scanner_put_v420 N 1 4 (List.drop (Int.toNat y2) (List.take (Int.toNat (y2 + 1)) y)) (value_Value.mk 0 0 0 []) y y2 xs).bind fun put4 =>
   some (put4.1, put4.2.1, put4.2.2)))))
def s_lex_scanner_token_v558 (N : Nat) (y : List UInt8) (y2 : Int) (xs : List lex_Token) : Option ((List UInt8 × Int × List lex_Token) ⊕ (Int × Int × List UInt8 × Int × List lex_Token) ⊕ (List UInt8 × Int × List lex_Token)) :=
  (ix y y2).bind fun c =>
  (s_lex_small N (UInt8.toNat c : Int)).bind fun smal =>
  bif smal then
   bif ((List.length xs : Int) == 200) then
    (s_lex_scanner_fail_v359 N 7 y y2 xs).bind fun x => Sum.elim
    (fun fail =>
     some (Sum.inl (fail.1, fail.2.1, fail.2.2)))
    (fun fail2 =>
     some (Sum.inr (Sum.inl (fail2.1, fail2.2.1, fail2.2.2.1, fail2.2.2.2.1, fail2.2.2.2.2)))) x
   else
    (s_lex_small N (UInt8.toNat c : Int)).bind fun smal2 =>
    bif smal2 then
     (s_lex_scanner_word_v558 N y y2 xs).bind fun x => Sum.elim
     (fun word =>
      some (Sum.inr (Sum.inr (word.1, word.2.1, word.2.2))))
     (Sum.elim
     (fun word2 =>
      some (Sum.inl (word2.1, word2.2.1, word2.2.2)))
     (fun word3 =>
      some (Sum.inr (Sum.inl (word3.1, word3.2.1, word3.2.2.1, word3.2.2.2.1, word3.2.2.2.2))))) x
    else
     (s_lex_digit N (UInt8.toNat c : Int)).bind fun digi =>
     bif digi then
      (s_lex_scanner_number_v558 N y y2 xs).bind fun x => Sum.elim
      (fun numb =>
       some (Sum.inl (numb.1, numb.2.1, numb.2.2)))
      (Sum.elim
      (fun numb2 =>
       some (Sum.inr (Sum.inl (numb2.1, numb2.2.1, numb2.2.2.1, numb2.2.2.2.1, numb2.2.2.2.2))))
      (fun numb3 =>
       some (Sum.inr (Sum.inr (numb3.1, numb3.2.1, numb3.2.2))))) x
     else
      bif ((UInt8.toNat c : Int) == 35) then
       (s_lex_scanner_double_v558 N y y2 xs).bind fun x => Sum.elim
       (fun doub =>
        some (Sum.inl (doub.1, doub.2.1, doub.2.2)))
       (Sum.elim
       (fun doub2 =>
        some (Sum.inr (Sum.inl (doub2.1, doub2.2.1, doub2.2.2.1, doub2.2.2.2.1, doub2.2.2.2.2))))
       (fun doub3 =>
        some (Sum.inr (Sum.inr (doub3.1, doub3.2.1, doub3.2.2))))) x
      else
       bif ((UInt8.toNat c : Int) == 39) then
        (s_lex_scanner_quoted_v558 N y y2 xs).bind fun x => Sum.elim
        (fun quot =>
         some (Sum.inl (quot.1, quot.2.1, quot.2.2)))
        (Sum.elim
        (fun quot2 =>
         some (Sum.inr (Sum.inl (quot2.1, quot2.2.1, quot2.2.2.1, quot2.2.2.2.1, quot2.2.2.2.2))))
        (fun quot3 =>
         some (Sum.inr (Sum.inr (quot3.1, quot3.2.1, quot3.2.2))))) x
       else
        (s_lex_scanner_sign_v558 N y y2 xs).bind fun sign =>
        some (Sum.inr (Sum.inr (sign.1, sign.2.1, sign.2.2)))
  else
   (s_lex_digit N (UInt8.toNat c : Int)).bind fun digi2 =>
   bif digi2 then
    bif ((List.length xs : Int) == 200) then
     (s_lex_scanner_fail_v359 N 7 y y2 xs).bind fun x => Sum.elim
     (fun fail3 =>
      some (Sum.inl (fail3.1, fail3.2.1, fail3.2.2)))
     (fun fail4 =>
      some (Sum.inr (Sum.inl (fail4.1, fail4.2.1, fail4.2.2.1, fail4.2.2.2.1, fail4.2.2.2.2)))) x
    else
     (s_lex_small N (UInt8.toNat c : Int)).bind fun smal3 =>
     bif smal3 then
      (s_lex_scanner_word_v558 N y y2 xs).bind fun x => Sum.elim
      (fun word4 =>
       some (Sum.inr (Sum.inr (word4.1, word4.2.1, word4.2.2))))
      (Sum.elim
      (fun word5 =>
       some (Sum.inl (word5.1, word5.2.1, word5.2.2)))
      (fun word6 =>
       some (Sum.inr (Sum.inl (word6.1, word6.2.1, word6.2.2.1, word6.2.2.2.1, word6.2.2.2.2))))) x
     else
      (s_lex_digit N (UInt8.toNat c : Int)).bind fun digi3 =>
      bif digi3 then
       (s_lex_scanner_number_v558 N y y2 xs).bind fun x => Sum.elim
       (fun numb4 =>
        some (Sum.inl (numb4.1, numb4.2.1, numb4.2.2)))
       (Sum.elim
       (fun numb5 =>
        some (Sum.inr (Sum.inl (numb5.1, numb5.2.1, numb5.2.2.1, numb5.2.2.2.1, numb5.2.2.2.2))))
       (fun numb6 =>
        some (Sum.inr (Sum.inr (numb6.1, numb6.2.1, numb6.2.2))))) x
      else
       bif ((UInt8.toNat c : Int) == 35) then
        (s_lex_scanner_double_v558 N y y2 xs).bind fun x => Sum.elim
        (fun doub4 =>
         some (Sum.inl (doub4.1, doub4.2.1, doub4.2.2)))
        (Sum.elim
        (fun doub5 =>
         some (Sum.inr (Sum.inl (doub5.1, doub5.2.1, doub5.2.2.1, doub5.2.2.2.1, doub5.2.2.2.2))))
        (fun doub6 =>
         some (Sum.inr (Sum.inr (doub6.1, doub6.2.1, doub6.2.2))))) x
       else
        bif ((UInt8.toNat c : Int) == 39) then
         (s_lex_scanner_quoted_v558 N y y2 xs).bind fun x => Sum.elim
         (fun quot4 =>
          some (Sum.inl (quot4.1, quot4.2.1, quot4.2.2)))
         (Sum.elim
         (fun quot5 =>
          some (Sum.inr (Sum.inl (quot5.1, quot5.2.1, quot5.2.2.1, quot5.2.2.2.1, quot5.2.2.2.2))))
         (fun quot6 =>
          some (Sum.inr (Sum.inr (quot6.1, quot6.2.1, quot6.2.2))))) x
        else
         (s_lex_scanner_sign_v558 N y y2 xs).bind fun sign2 =>
         some (Sum.inr (Sum.inr (sign2.1, sign2.2.1, sign2.2.2)))
   else
    bif ((UInt8.toNat c : Int) == 35) then
     bif ((List.length xs : Int) == 200) then
      (s_lex_scanner_fail_v359 N 7 y y2 xs).bind fun x => Sum.elim
      (fun fail5 =>
       some (Sum.inl (fail5.1, fail5.2.1, fail5.2.2)))
      (fun fail6 =>
       some (Sum.inr (Sum.inl (fail6.1, fail6.2.1, fail6.2.2.1, fail6.2.2.2.1, fail6.2.2.2.2)))) x
     else
      (s_lex_small N (UInt8.toNat c : Int)).bind fun smal4 =>
      bif smal4 then
       (s_lex_scanner_word_v558 N y y2 xs).bind fun x => Sum.elim
       (fun word7 =>
        some (Sum.inr (Sum.inr (word7.1, word7.2.1, word7.2.2))))
       (Sum.elim
       (fun word8 =>
        some (Sum.inl (word8.1, word8.2.1, word8.2.2)))
       (fun word9 =>
        some (Sum.inr (Sum.inl (word9.1, word9.2.1, word9.2.2.1, word9.2.2.2.1, word9.2.2.2.2))))) x
      else
       (s_lex_digit N (UInt8.toNat c : Int)).bind fun digi4 =>
       bif digi4 then
        (s_lex_scanner_number_v558 N y y2 xs).bind fun x => Sum.elim
        (fun numb7 =>
         some (Sum.inl (numb7.1, numb7.2.1, numb7.2.2)))
        (Sum.elim
        (fun numb8 =>
         some (Sum.inr (Sum.inl (numb8.1, numb8.2.1, numb8.2.2.1, numb8.2.2.2.1, numb8.2.2.2.2))))
        (fun numb9 =>
         some (Sum.inr (Sum.inr (numb9.1, numb9.2.1, numb9.2.2))))) x
       else
        bif ((UInt8.toNat c : Int) == 35) then
         (s_lex_scanner_double_v558 N y y2 xs).bind fun x => Sum.elim
         (fun doub7 =>
          some (Sum.inl (doub7.1, doub7.2.1, doub7.2.2)))
         (Sum.elim
         (fun doub8 =>
          some (Sum.inr (Sum.inl (doub8.1, doub8.2.1, doub8.2.2.1, doub8.2.2.2.1, doub8.2.2.2.2))))
         (fun doub9 =>
          some (Sum.inr (Sum.inr (doub9.1, doub9.2.1, doub9.2.2))))) x
        else
         bif ((UInt8.toNat c : Int) == 39) then
          (s_lex_scanner_quoted_v558 N y y2 xs).bind fun x => Sum.elim
          (fun quot7 =>
           some (Sum.inl (quot7.1, quot7.2.1, quot7.2.2)))
          (Sum.elim
          (fun quot8 =>
           some (Sum.inr (Sum.inl (quot8.1, quot8.2.1, quot8.2.2.1, quot8.2.2.2.1, quot8.2.2.2.2))))
          (fun quot9 =>
           some (Sum.inr (Sum.inr (quot9.1, quot9.2.1, quot9.2.2))))) x
         else
          (s_lex_scanner_sign_v558 N y y2 xs).bind fun sign3 =>
          some (Sum.inr (Sum.inr (sign3.1, sign3.2.1, sign3.2.2)))
    else
     bif ((UInt8.toNat c : Int) == 39) then
      bif ((List.length xs : Int) == 200) then
       (s_lex_scanner_fail_v359 N 7 y y2 xs).bind fun x => Sum.elim
       (fun fail7 =>
        some (Sum.inl (fail7.1, fail7.2.1, fail7.2.2)))
       (fun fail8 =>
        some (Sum.inr (Sum.inl (fail8.1, fail8.2.1, fail8.2.2.1, fail8.2.2.2.1, fail8.2.2.2.2)))) x
      else
       (s_lex_small N (UInt8.toNat c : Int)).bind fun smal5 =>
       bif smal5 then
        (s_lex_scanner_word_v558 N y y2 xs).bind fun x => Sum.elim
        (fun word10 =>
         some (Sum.inr (Sum.inr (word10.1, word10.2.1, word10.2.2))))
        (Sum.elim
        (fun word11 =>
         some (Sum.inl (word11.1, word11.2.1, word11.2.2)))
        (fun word12 =>
         some (Sum.inr (Sum.inl (word12.1, word12.2.1, word12.2.2.1, word12.2.2.2.1, word12.2.2.2.2))))) x
       else
        (s_lex_digit N (UInt8.toNat c : Int)).bind fun digi5 =>
        bif digi5 then
         (s_lex_scanner_number_v558 N y y2 xs).bind fun x => Sum.elim
         (fun numb10 =>
          some (Sum.inl (numb10.1, numb10.2.1, numb10.2.2)))
         (Sum.elim
         (fun numb11 =>
          some (Sum.inr (Sum.inl (numb11.1, numb11.2.1, numb11.2.2.1, numb11.2.2.2.1, numb11.2.2.2.2))))
         (fun numb12 =>
          some (Sum.inr (Sum.inr (numb12.1, numb12.2.1, numb12.2.2))))) x
        else
         bif ((UInt8.toNat c : Int) == 35) then
          (s_lex_scanner_double_v558 N y y2 xs).bind fun x => Sum.elim
          (fun doub10 =>
           some (Sum.inl (doub10.1, doub10.2.1, doub10.2.2)))
          (Sum.elim
          (fun doub11 =>
           some (Sum.inr (Sum.inl (doub11.1, doub11.2.1, doub11.2.2.1, doub11.2.2.2.1, doub11.2.2.2.2))))
          (fun doub12 =>
           some (Sum.inr (Sum.inr (doub12.1, doub12.2.1, doub12.2.2))))) x
         else
          bif ((UInt8.toNat c : Int) == 39) then
           (s_lex_scanner_quoted_v558 N y y2 xs).bind fun x => Sum.elim
           (fun quot10 =>
            some (Sum.inl (quot10.1, quot10.2.1, quot10.2.2)))
           (Sum.elim
           (fun quot11 =>
            some (Sum.inr (Sum.inl (quot11.1, quot11.2.1, quot11.2.2.1, quot11.2.2.2.1, quot11.2.2.2.2))))
           (fun quot12 =>
            some (Sum.inr (Sum.inr (quot12.1, quot12.2.1, quot12.2.2))))) x
          else
           (s_lex_scanner_sign_v558 N y y2 xs).bind fun sign4 =>
           some (Sum.inr (Sum.inr (sign4.1, sign4.2.1, sign4.2.2)))
     else
      (s_strings_IndexByte N [40, 41, 91, 93, 123, 125, 59, 124, 33, 58, 44, 46, 43, 42, 63, 45, 61, 60, 62] (UInt8.toNat c : Int)).bind fun inde =>
      bif (!(leB 0 inde)) then
       (s_lex_scanner_fail_v359 N 10 y y2 xs).bind fun x => Sum.elim
       (fun fail9 =>
        some (Sum.inl (fail9.1, fail9.2.1, fail9.2.2)))
       (fun fail10 =>
        some (Sum.inr (Sum.inl (fail10.1, fail10.2.1, fail10.2.2.1, fail10.2.2.2.1, fail10.2.2.2.2)))) x
      else
       bif ((List.length xs : Int) == 200) then
        (s_lex_scanner_fail_v359 N 7 y y2 xs).bind fun x => Sum.elim
        (fun fail11 =>
         some (Sum.inl (fail11.1, fail11.2.1, fail11.2.2)))
        (fun fail12 =>
         some (Sum.inr (Sum.inl (fail12.1, fail12.2.1, fail12.2.2.1, fail12.2.2.2.1, fail12.2.2.2.2)))) x
       else
        (s_lex_small N (UInt8.toNat c : Int)).bind fun smal6 =>
        bif smal6 then
         (s_lex_scanner_word_v558 N y y2 xs).bind fun x => Sum.elim
         (fun word13 =>
          some (Sum.inr (Sum.inr (word13.1, word13.2.1, word13.2.2))))
         (Sum.elim
         (fun word14 =>
          some (Sum.inl (word14.1, word14.2.1, word14.2.2)))
         (fun word15 =>
          some (Sum.inr (Sum.inl (word15.1, word15.2.1, word15.2.2.1, word15.2.2.2.1, word15.2.2.2.2))))) x
        else
         (s_lex_digit N (UInt8.toNat c : Int)).bind fun digi6 =>
         bif digi6 then
          (s_lex_scanner_number_v558 N y y2 xs).bind fun x => Sum.elim
          (fun numb13 =>
           some (Sum.inl (numb13.1, numb13.2.1, numb13.2.2)))
          (Sum.elim
          (fun numb14 =>
           some (Sum.inr (Sum.inl (numb14.1, numb14.2.1, numb14.2.2.1, numb14.2.2.2.1, numb14.2.2.2.2))))
          (fun numb15 =>
           some (Sum.inr (Sum.inr (numb15.1, numb15.2.1, numb15.2.2))))) x
         else
          bif ((UInt8.toNat c : Int) == 35) then
           (s_lex_scanner_double_v558 N y y2 xs).bind fun x => Sum.elim
           (fun doub13 =>
            some (Sum.inl (doub13.1, doub13.2.1, doub13.2.2)))
           (Sum.elim
           (fun doub14 =>
            some (Sum.inr (Sum.inl (doub14.1, doub14.2.1, doub14.2.2.1, doub14.2.2.2.1, doub14.2.2.2.2))))
           (fun doub15 =>
            some (Sum.inr (Sum.inr (doub15.1, doub15.2.1, doub15.2.2))))) x
          else
           bif ((UInt8.toNat c : Int) == 39) then
            (s_lex_scanner_quoted_v558 N y y2 xs).bind fun x => Sum.elim
            (fun quot13 =>
             some (Sum.inl (quot13.1, quot13.2.1, quot13.2.2)))
            (Sum.elim
            (fun quot14 =>
             some (Sum.inr (Sum.inl (quot14.1, quot14.2.1, quot14.2.2.1, quot14.2.2.2.1, quot14.2.2.2.2))))
            (fun quot15 =>
             some (Sum.inr (Sum.inr (quot15.1, quot15.2.1, quot15.2.2))))) x
           else
            (s_lex_scanner_sign_v558 N y y2 xs).bind fun sign5 =>
            some (Sum.inr (Sum.inr (sign5.1, sign5.2.1, sign5.2.2)))
def s_lex_Scan_1 (N : Nat) (s : List UInt8) (next0 : (List UInt8) → Int → (List lex_Token) → Option ((List lex_Token) ⊕ (List lex_Token × Int × Int))) (y : List UInt8) (y2 : Int) (ys : List lex_Token) : Option ((List lex_Token) ⊕ (List lex_Token × Int × Int)) :=
  bif (ltB y2 (List.length s : Int)) then
   (ix s y2).bind fun c =>
   bif ((UInt8.toNat c : Int) == 32) then
    gd (i64b (y2 + 1)) (
    next0 y (y2 + 1) ys)
   else
    bif ((UInt8.toNat c : Int) == 9) then
     gd (i64b (y2 + 1)) (
     next0 y (y2 + 1) ys)
    else
     bif ((UInt8.toNat c : Int) == 10) then
      gd (i64b (y2 + 1)) (
      next0 y (y2 + 1) ys)
     else
      (s_lex_scanner_token_v558 N y y2 ys).bind fun x => Sum.elim
      (fun toke =>
       next0 toke.1 toke.2.1 toke.2.2)
      (Sum.elim
      (fun toke2 =>
       some (Sum.inr ([], toke2.1, toke2.2.1)))
      (fun toke3 =>
       next0 toke3.1 toke3.2.1 toke3.2.2)) x
  else
   some (Sum.inl ys)
def s_lex_Scan (N : Nat) (s : List UInt8) : Option ((List lex_Token) ⊕ (List lex_Token × Int × Int)) :=
  bif (ltB 600 (List.length s : Int)) then
   (s_fault_New N 5 0).bind fun x => Sum.elim
   (fun new =>
    some (Sum.inl []))
   (fun new2 =>
    some (Sum.inr ([], new2.1, new2.2))) x
  else
   lp3 (s_lex_Scan_1 N s) N s 0 []
def s_predtext_parser_next_v424 (N : Nat) (y : List lex_Token) (y2 : Int) (y3 : Int) : Option (lex_Token × List lex_Token × Int × Int) :=
  bif (ltB y2 (List.length y : Int)) then
   (ix y y2).bind fun e =>
   some (e, y, y2, y3)
  else
   some ((lex_Token.mk 0 0 [] (value_Value.mk 0 0 0 [])), y, y2, y3)
def s_predtext_parser_place_v424 (N : Nat) (y : List lex_Token) (y2 : Int) (y3 : Int) : Option (Int × List lex_Token × Int × Int) :=
  bif (ltB y2 (List.length y : Int)) then
   (ix y y2).bind fun e =>
   some (e.At, y, y2, y3)
  else
   some (y3, y, y2, y3)
def s_predtext_parser_fail_v927 (N : Nat) (e : Int) (y : List lex_Token) (y2 : Int) (y3 : Int) : Option (Int × Int × List lex_Token × Int × Int) :=
  (s_predtext_parser_place_v424 N y y2 y3).bind fun plac =>
  some (e, plac.1, plac.2.1, plac.2.2.1, plac.2.2.2)
def s_predtext_parser_deeper_v927 (N : Nat) (deep : Int) (y : List lex_Token) (y2 : Int) (y3 : Int) : Option ((Int × Int × List lex_Token × Int × Int) ⊕ (List lex_Token × Int × Int)) :=
  (s_predtext_parser_next_v424 N y y2 y3).bind fun vnext =>
  bif (vnext.1.Kind == 2) then
   bif (vnext.1.Text == [110, 111, 116]) then
    bif (leB 16 deep) then
     (s_predtext_parser_fail_v927 N 15 vnext.2.1 vnext.2.2.1 vnext.2.2.2).bind fun fail =>
     some (Sum.inl (fail.1, fail.2.1, fail.2.2.1, fail.2.2.2.1, fail.2.2.2.2))
    else
     some (Sum.inr (vnext.2.1, vnext.2.2.1, vnext.2.2.2))
   else
    bif (vnext.1.Kind == 4) then
     bif (vnext.1.Text == [40]) then
      bif (leB 16 deep) then
       (s_predtext_parser_fail_v927 N 15 vnext.2.1 vnext.2.2.1 vnext.2.2.2).bind fun fail2 =>
       some (Sum.inl (fail2.1, fail2.2.1, fail2.2.2.1, fail2.2.2.2.1, fail2.2.2.2.2))
      else
       some (Sum.inr (vnext.2.1, vnext.2.2.1, vnext.2.2.2))
     else
      some (Sum.inr (vnext.2.1, vnext.2.2.1, vnext.2.2.2))
    else
     some (Sum.inr (vnext.2.1, vnext.2.2.1, vnext.2.2.2))
  else
   bif (vnext.1.Kind == 4) then
    bif (vnext.1.Text == [40]) then
     bif (leB 16 deep) then
      (s_predtext_parser_fail_v927 N 15 vnext.2.1 vnext.2.2.1 vnext.2.2.2).bind fun fail3 =>
      some (Sum.inl (fail3.1, fail3.2.1, fail3.2.2.1, fail3.2.2.2.1, fail3.2.2.2.2))
     else
      some (Sum.inr (vnext.2.1, vnext.2.2.1, vnext.2.2.2))
    else
     some (Sum.inr (vnext.2.1, vnext.2.2.1, vnext.2.2.2))
   else
    some (Sum.inr (vnext.2.1, vnext.2.2.1, vnext.2.2.2))
def s_predtext_parser_eat_v368 (N : Nat) (kind : Int) (text : List UInt8) (y : List lex_Token) (y2 : Int) (y3 : Int) : Option (Bool × List lex_Token × Int × Int) :=
  (s_predtext_parser_next_v424 N y y2 y3).bind fun vnext =>
  bif (vnext.1.Kind != kind) then
   some (false, vnext.2.1, vnext.2.2.1, vnext.2.2.2)
  else
   bif (!(vnext.1.Text == text)) then
    some (false, vnext.2.1, vnext.2.2.1, vnext.2.2.2)
   else
    gd (i64b (vnext.2.2.1 + 1)) (
    some (true, vnext.2.1, (vnext.2.2.1 + 1), vnext.2.2.2))
def s_slices_Grow_pred_Node_own (N : Nat) (n : Int) : Option (List pred_Node) := gd (leB 0 n) (gd (leB (80 * n) 140737488355328) (some []))
def s_slices_Concat_pred_Node_2 (N : Nat) (x4 : List (List pred_Node)) (x5 : Int) (next2 : Int → (List pred_Node) → Option ((List UInt8) ⊕ (List pred_Node))) (x6 : Int) (ys : List pred_Node) : Option ((List UInt8) ⊕ (List pred_Node)) :=
  bif (ltB x6 x5) then
   (ix x4 x6).bind fun e2 =>
   gd (Nat.ble ((List.length ys + List.length e2) * 80) 140737488355328) (
   gd (i64b (x6 + 1)) (
   next2 (x6 + 1) (ys ++ e2)))
  else
   some (Sum.inr ys)
def s_slices_Concat_pred_Node_1 (N : Nat) (slices : List (List pred_Node)) (x : List (List pred_Node)) (x2 : Int) (next0 : Int → Int → Option ((List UInt8) ⊕ (List pred_Node))) (size : Int) (x3 : Int) : Option ((List UInt8) ⊕ (List pred_Node)) :=
  bif (ltB x3 x2) then
   (ix x x3).bind fun e =>
   gd (i64b (size + (List.length e : Int))) (
   bif (ltB (size + (List.length e : Int)) 0) then
    some (Sum.inl [108, 101, 110, 32, 111, 117, 116, 32, 111, 102, 32, 114, 97, 110, 103, 101])
   else
    gd (i64b (x3 + 1)) (
    next0 (size + (List.length e : Int)) (x3 + 1)))
  else
   (s_slices_Grow_pred_Node_own N size).bind fun node =>
   lp2 (s_slices_Concat_pred_Node_2 N slices (List.length slices : Int)) N 0 node
def s_slices_Concat_pred_Node (N : Nat) (slices : List (List pred_Node)) : Option ((List UInt8) ⊕ (List pred_Node)) :=
  lp2 (s_slices_Concat_pred_Node_1 N slices slices (List.length slices : Int)) N 0 0
def s_predtext_above (N : Nat) (n : pred_Node) (kids : List (List pred_Node)) : Option (List pred_Node) :=
  (s_slices_Concat_pred_Node N kids).bind fun x => Sum.elim
  (fun node =>
   none)
  (fun node2 =>
   gd (Nat.ble ((1 + List.length node2) * 80) 140737488355328) (
   some (n :: node2))) x
def s_predtext_parser_take_v128 (N : Nat) (kind : Int) (y : List lex_Token) (y2 : Int) (y3 : Int) : Option ((Int × Int × List lex_Token × Int × Int) ⊕ (lex_Token × List lex_Token × Int × Int)) :=
  (s_predtext_parser_next_v424 N y y2 y3).bind fun vnext =>
  bif (vnext.1.Kind != kind) then
   (s_predtext_parser_fail_v927 N 4 vnext.2.1 vnext.2.2.1 vnext.2.2.2).bind fun fail =>
   some (Sum.inl (fail.1, fail.2.1, fail.2.2.1, fail.2.2.2.1, fail.2.2.2.2))
  else
   gd (i64b (vnext.2.2.1 + 1)) (
   some (Sum.inr (vnext.1, vnext.2.1, (vnext.2.2.1 + 1), vnext.2.2.2)))
def s_predtext_parser_unit_v424 (N : Nat) (y : List lex_Token) (y2 : Int) (y3 : Int) : Option ((Int × Int × List lex_Token × Int × Int) ⊕ (List pred_Node × List lex_Token × Int × Int)) :=
  (s_predtext_parser_eat_v368 N 4 [45] y y2 y3).bind fun eat =>
  bif eat.1 then
   (s_predtext_parser_next_v424 N eat.2.1 eat.2.2.1 eat.2.2.2).bind fun vnext =>
   bif (vnext.1.Val.Kind != 1) then
    (s_predtext_parser_fail_v927 N 4 vnext.2.1 vnext.2.2.1 vnext.2.2.2).bind fun fail =>
    some (Sum.inl (fail.1, fail.2.1, fail.2.2.1, fail.2.2.2.1, fail.2.2.2.2))
   else
    (s_predtext_parser_take_v128 N 3 vnext.2.1 vnext.2.2.1 vnext.2.2.2).bind fun x => Sum.elim
    (fun take =>
     some (Sum.inl (take.1, take.2.1, take.2.2.1, take.2.2.2.1, take.2.2.2.2)))
    (fun take2 =>
     some (Sum.inr ([(pred_Node.mk 9 0 [] [] (value_Value.mk take2.1.Val.Kind (IntKind.i64.wrap (0 - take2.1.Val.N)) take2.1.Val.Bits take2.1.Val.Text))], take2.2.1, take2.2.2.1, take2.2.2.2))) x
  else
   (s_predtext_parser_next_v424 N eat.2.1 eat.2.2.1 eat.2.2.2).bind fun vnext2 =>
   bif (vnext2.1.Kind == 3) then
    gd (i64b (vnext2.2.2.1 + 1)) (
    some (Sum.inr ([(pred_Node.mk 9 0 [] [] vnext2.1.Val)], vnext2.2.1, (vnext2.2.2.1 + 1), vnext2.2.2.2)))
   else
    (s_predtext_parser_take_v128 N 1 vnext2.2.1 vnext2.2.2.1 vnext2.2.2.2).bind fun x => Sum.elim
    (fun take3 =>
     some (Sum.inl (take3.1, take3.2.1, take3.2.2.1, take3.2.2.2.1, take3.2.2.2.2)))
    (fun take4 =>
     (s_predtext_parser_eat_v368 N 4 [46] take4.2.1 take4.2.2.1 take4.2.2.2).bind fun eat2 =>
     bif eat2.1 then
      (s_predtext_parser_take_v128 N 1 eat2.2.1 eat2.2.2.1 eat2.2.2.2).bind fun x => Sum.elim
      (fun take5 =>
       some (Sum.inl (take5.1, take5.2.1, take5.2.2.1, take5.2.2.2.1, take5.2.2.2.2)))
      (fun take6 =>
       some (Sum.inr ([(pred_Node.mk 8 0 take4.1.Text take6.1.Text (value_Value.mk 0 0 0 []))], take6.2.1, take6.2.2.1, take6.2.2.2))) x
     else
      some (Sum.inr ([(pred_Node.mk 7 0 [] take4.1.Text (value_Value.mk 0 0 0 []))], eat2.2.1, eat2.2.2.1, eat2.2.2.2))) x
def s_predtext_parser_sum_v424_1 (N : Nat) (next0 : (List pred_Node) → (List lex_Token) → Int → Int → Option ((Int × Int × List lex_Token × Int × Int) ⊕ (List pred_Node × List lex_Token × Int × Int))) (l : List pred_Node) (y4 : List lex_Token) (y5 : Int) (y6 : Int) : Option ((Int × Int × List lex_Token × Int × Int) ⊕ (List pred_Node × List lex_Token × Int × Int)) :=
  (s_predtext_parser_eat_v368 N 4 [43] y4 y5 y6).bind fun eat =>
  bif eat.1 then
   (s_predtext_parser_unit_v424 N eat.2.1 eat.2.2.1 eat.2.2.2).bind fun x => Sum.elim
   (fun unit3 =>
    some (Sum.inl (unit3.1, unit3.2.1, unit3.2.2.1, unit3.2.2.2.1, unit3.2.2.2.2)))
   (fun unit4 =>
    (s_predtext_above N (pred_Node.mk 5 0 [] [] (value_Value.mk 0 0 0 [])) [l, unit4.1]).bind fun abov =>
    next0 abov unit4.2.1 unit4.2.2.1 unit4.2.2.2) x
  else
   (s_predtext_parser_eat_v368 N 4 [45] eat.2.1 eat.2.2.1 eat.2.2.2).bind fun eat2 =>
   bif eat2.1 then
    (s_predtext_parser_unit_v424 N eat2.2.1 eat2.2.2.1 eat2.2.2.2).bind fun x => Sum.elim
    (fun unit5 =>
     some (Sum.inl (unit5.1, unit5.2.1, unit5.2.2.1, unit5.2.2.2.1, unit5.2.2.2.2)))
    (fun unit6 =>
     (s_predtext_above N (pred_Node.mk 6 0 [] [] (value_Value.mk 0 0 0 [])) [l, unit6.1]).bind fun abov2 =>
     next0 abov2 unit6.2.1 unit6.2.2.1 unit6.2.2.2) x
   else
    some (Sum.inr (l, eat2.2.1, eat2.2.2.1, eat2.2.2.2))
def s_predtext_parser_sum_v424 (N : Nat) (y : List lex_Token) (y2 : Int) (y3 : Int) : Option ((Int × Int × List lex_Token × Int × Int) ⊕ (List pred_Node × List lex_Token × Int × Int)) :=
  (s_predtext_parser_unit_v424 N y y2 y3).bind fun x => Sum.elim
  (fun unit =>
   some (Sum.inl (unit.1, unit.2.1, unit.2.2.1, unit.2.2.2.1, unit.2.2.2.2)))
  (fun unit2 =>
   lp4 (s_predtext_parser_sum_v424_1 N) N unit2.1 unit2.2.1 unit2.2.2.1 unit2.2.2.2) x
def s_compare_Sign (N : Nat) (op : Int) : Option (List UInt8) :=
  bif (op == 1) then
   some [61]
  else
   bif (op == 2) then
    some [33, 61]
   else
    bif (op == 3) then
     some [60]
    else
     bif (op == 4) then
      some [60, 61]
     else
      bif (op == 5) then
       some [62]
      else
       bif (op == 6) then
        some [62, 61]
       else
        some []
def s_compare_Op_1 (N : Nat) (sign : List UInt8) (next0 : Int → Option Int) (op : Int) : Option Int :=
  bif (leB op 6) then
   (s_compare_Sign N op).bind fun sign2 =>
   bif (sign2 == sign) then
    some op
   else
    next0 (IntKind.u8.wrap (op + 1))
  else
   some 0
def s_compare_Op (N : Nat) (sign : List UInt8) : Option Int :=
  lp1 (s_compare_Op_1 N sign) N 1
abbrev TS_predtext_parser_or_v927 : Type := (Int → (List lex_Token) → Int → Int → Option ((Int × Int × List lex_Token × Int × Int) ⊕ (List pred_Node × List lex_Token × Int × Int))) × (Int → (List lex_Token) → Int → Int → Option ((Int × Int × List lex_Token × Int × Int) ⊕ (List pred_Node × List lex_Token × Int × Int))) × (Int → (List lex_Token) → Int → Int → Option ((Int × Int × List lex_Token × Int × Int) ⊕ (List pred_Node × List lex_Token × Int × Int)))
def s_predtext_parser_or_v927_1 (N : Nat) (p : TS_predtext_parser_or_v927) (deep : Int) (next0 : (List pred_Node) → (List lex_Token) → Int → Int → Option ((Int × Int × List lex_Token × Int × Int) ⊕ (List pred_Node × List lex_Token × Int × Int))) (l : List pred_Node) (y4 : List lex_Token) (y5 : Int) (y6 : Int) : Option ((Int × Int × List lex_Token × Int × Int) ⊕ (List pred_Node × List lex_Token × Int × Int)) :=
  (s_predtext_parser_eat_v368 N 2 [111, 114] y4 y5 y6).bind fun eat =>
  bif eat.1 then
   (p.2.1 deep eat.2.1 eat.2.2.1 eat.2.2.2).bind fun x => Sum.elim
   (fun and3 =>
    some (Sum.inl (and3.1, and3.2.1, and3.2.2.1, and3.2.2.2.1, and3.2.2.2.2)))
   (fun and4 =>
    (s_predtext_above N (pred_Node.mk 2 0 [] [] (value_Value.mk 0 0 0 [])) [l, and4.1]).bind fun abov =>
    next0 abov and4.2.1 and4.2.2.1 and4.2.2.2) x
  else
   some (Sum.inr (l, eat.2.1, eat.2.2.1, eat.2.2.2))
def b_predtext_parser_or_v927 (N : Nat) (p : TS_predtext_parser_or_v927) (deep : Int) (y : List lex_Token) (y2 : Int) (y3 : Int) : Option ((Int × Int × List lex_Token × Int × Int) ⊕ (List pred_Node × List lex_Token × Int × Int)) :=
  (p.2.1 deep y y2 y3).bind fun x => Sum.elim
  (fun and =>
   some (Sum.inl (and.1, and.2.1, and.2.2.1, and.2.2.2.1, and.2.2.2.2)))
  (fun and2 =>
   lp4 (s_predtext_parser_or_v927_1 N p deep) N and2.1 and2.2.1 and2.2.2.1 and2.2.2.2) x
def s_predtext_parser_and_v927_1 (N : Nat) (p : TS_predtext_parser_or_v927) (deep : Int) (next0 : (List pred_Node) → (List lex_Token) → Int → Int → Option ((Int × Int × List lex_Token × Int × Int) ⊕ (List pred_Node × List lex_Token × Int × Int))) (l : List pred_Node) (y4 : List lex_Token) (y5 : Int) (y6 : Int) : Option ((Int × Int × List lex_Token × Int × Int) ⊕ (List pred_Node × List lex_Token × Int × Int)) :=
  (s_predtext_parser_eat_v368 N 2 [97, 110, 100] y4 y5 y6).bind fun eat =>
  bif eat.1 then
   (p.2.2 deep eat.2.1 eat.2.2.1 eat.2.2.2).bind fun x => Sum.elim
   (fun part3 =>
    some (Sum.inl (part3.1, part3.2.1, part3.2.2.1, part3.2.2.2.1, part3.2.2.2.2)))
   (fun part4 =>
    (s_predtext_above N (pred_Node.mk 1 0 [] [] (value_Value.mk 0 0 0 [])) [l, part4.1]).bind fun abov =>
    next0 abov part4.2.1 part4.2.2.1 part4.2.2.2) x
  else
   some (Sum.inr (l, eat.2.1, eat.2.2.1, eat.2.2.2))
def b_predtext_parser_and_v927 (N : Nat) (p : TS_predtext_parser_or_v927) (deep : Int) (y : List lex_Token) (y2 : Int) (y3 : Int) : Option ((Int × Int × List lex_Token × Int × Int) ⊕ (List pred_Node × List lex_Token × Int × Int)) :=
  (p.2.2 deep y y2 y3).bind fun x => Sum.elim
  (fun part =>
   some (Sum.inl (part.1, part.2.1, part.2.2.1, part.2.2.2.1, part.2.2.2.2)))
  (fun part2 =>
   lp4 (s_predtext_parser_and_v927_1 N p deep) N part2.1 part2.2.1 part2.2.2.1 part2.2.2.2) x
def b_predtext_parser_part_v927 (N : Nat) (p : TS_predtext_parser_or_v927) (deep : Int) (y : List lex_Token) (y2 : Int) (y3 : Int) : Option ((Int × Int × List lex_Token × Int × Int) ⊕ (List pred_Node × List lex_Token × Int × Int)) :=
  (s_predtext_parser_deeper_v927 N deep y y2 y3).bind fun x => Sum.elim
  (fun deep2 =>
   some (Sum.inl (deep2.1, deep2.2.1, deep2.2.2.1, deep2.2.2.2.1, deep2.2.2.2.2)))
  (fun deep3 =>
   (s_predtext_parser_eat_v368 N 2 [110, 111, 116] deep3.1 deep3.2.1 deep3.2.2).bind fun eat =>
   bif eat.1 then
    gd (i64b (deep + 1)) (
    (p.2.2 (deep + 1) eat.2.1 eat.2.2.1 eat.2.2.2).bind fun x => Sum.elim
    (fun part =>
     some (Sum.inl (part.1, part.2.1, part.2.2.1, part.2.2.2.1, part.2.2.2.2)))
    (fun part2 =>
     (s_predtext_above N (pred_Node.mk 3 0 [] [] (value_Value.mk 0 0 0 [])) [part2.1]).bind fun abov =>
     some (Sum.inr (abov, part2.2.1, part2.2.2.1, part2.2.2.2))) x)
   else
    (s_predtext_parser_eat_v368 N 4 [40] eat.2.1 eat.2.2.1 eat.2.2.2).bind fun eat2 =>
    bif eat2.1 then
     gd (i64b (deep + 1)) (
     (p.1 (deep + 1) eat2.2.1 eat2.2.2.1 eat2.2.2.2).bind fun x => Sum.elim
     (fun or =>
      some (Sum.inl (or.1, or.2.1, or.2.2.1, or.2.2.2.1, or.2.2.2.2)))
     (fun or2 =>
      (s_predtext_parser_eat_v368 N 4 [41] or2.2.1 or2.2.2.1 or2.2.2.2).bind fun eat3 =>
      bif (!eat3.1) then
       (s_predtext_parser_fail_v927 N 4 eat3.2.1 eat3.2.2.1 eat3.2.2.2).bind fun fail =>
       some (Sum.inl (fail.1, fail.2.1, fail.2.2.1, fail.2.2.2.1, fail.2.2.2.2))
      else
       some (Sum.inr (or2.1, eat3.2.1, eat3.2.2.1, eat3.2.2.2))) x)
    else
     (s_predtext_parser_sum_v424 N eat2.2.1 eat2.2.2.1 eat2.2.2.2).bind fun x => Sum.elim
     (fun sum =>
      some (Sum.inl (sum.1, sum.2.1, sum.2.2.1, sum.2.2.2.1, sum.2.2.2.2)))
     (fun sum2 =>
      (s_predtext_parser_next_v424 N sum2.2.1 sum2.2.2.1 sum2.2.2.2).bind fun vnext =>
      (s_compare_Op N vnext.1.Text).bind fun op =>
      bif (op == 0) then
       (s_predtext_parser_fail_v927 N 4 vnext.2.1 vnext.2.2.1 vnext.2.2.2).bind fun fail2 =>
       some (Sum.inl (fail2.1, fail2.2.1, fail2.2.2.1, fail2.2.2.2.1, fail2.2.2.2.2))
      else
       (s_predtext_parser_take_v128 N 4 vnext.2.1 vnext.2.2.1 vnext.2.2.2).bind fun x => Sum.elim
       (fun take =>
        some (Sum.inl (take.1, take.2.1, take.2.2.1, take.2.2.2.1, take.2.2.2.2)))
       (fun take2 =>
        (s_predtext_parser_sum_v424 N take2.2.1 take2.2.2.1 take2.2.2.2).bind fun x => Sum.elim
        (fun sum3 =>
         some (Sum.inl (sum3.1, sum3.2.1, sum3.2.2.1, sum3.2.2.2.1, sum3.2.2.2.2)))
        (fun sum4 =>
         (s_predtext_above N (pred_Node.mk 4 op [] [] (value_Value.mk 0 0 0 [])) [sum2.1, sum4.1]).bind fun abov2 =>
         some (Sum.inr (abov2, sum4.2.1, sum4.2.2.1, sum4.2.2.2))) x) x) x) x
def SS_predtext_parser_or_v927 (N : Nat) : TS_predtext_parser_or_v927 := Nat.rec (motive := fun _ => TS_predtext_parser_or_v927) ((fun _ _ _ _ => none), (fun _ _ _ _ => none), (fun _ _ _ _ => none)) (fun N p => ((b_predtext_parser_or_v927 N p), (b_predtext_parser_and_v927 N p), (b_predtext_parser_part_v927 N p))) N
def s_predtext_parser_or_v927 (N : Nat) (deep : Int) (y : List lex_Token) (y2 : Int) (y3 : Int) : Option ((Int × Int × List lex_Token × Int × Int) ⊕ (List pred_Node × List lex_Token × Int × Int)) := (SS_predtext_parser_or_v927 N).1 deep y y2 y3
def s_predtext_parser_and_v927 (N : Nat) (deep : Int) (y : List lex_Token) (y2 : Int) (y3 : Int) : Option ((Int × Int × List lex_Token × Int × Int) ⊕ (List pred_Node × List lex_Token × Int × Int)) := (SS_predtext_parser_or_v927 N).2.1 deep y y2 y3
def s_predtext_parser_part_v927 (N : Nat) (deep : Int) (y : List lex_Token) (y2 : Int) (y3 : Int) : Option ((Int × Int × List lex_Token × Int × Int) ⊕ (List pred_Node × List lex_Token × Int × Int)) := (SS_predtext_parser_or_v927 N).2.2 deep y y2 y3
def s_pred_Node_stands (N : Nat) (n : pred_Node) (vwhere : Int) : Option Bool :=
  bif (vwhere == 0) then
   bif (leB 1 n.Kind) then
    some (leB n.Kind 4)
   else
    some false
  else
   bif (vwhere == 1) then
    bif (leB 5 n.Kind) then
     some (leB n.Kind 9)
    else
     some false
   else
    bif (leB 7 n.Kind) then
     some (leB n.Kind 9)
    else
     some false
def s_schema_letter (N : Nat) (c : Int) : Option Bool :=
  bif (leB 97 c) then
   some (leB c 122)
  else
   some false
def s_schema_tail (N : Nat) (c : Int) : Option Bool :=
  (s_schema_letter N c).bind fun lett =>
  bif lett then
   some true
  else
   bif (leB 48 c) then
    bif (leB c 57) then
     some true
    else
     some (c == 95)
   else
    some (c == 95)
def s_schema_Name_1 (N : Nat) (s : List UInt8) (next0 : Int → Option Bool) (i : Int) : Option Bool :=
  bif (ltB i (List.length s : Int)) then
   (ix s i).bind fun c2 =>
   (s_schema_tail N (UInt8.toNat c2 : Int)).bind fun tail =>
   bif (!tail) then
    some false
   else
    gd (i64b (i + 1)) (
    next0 (i + 1))
  else
   some true
def s_schema_Name (N : Nat) (s : List UInt8) : Option Bool :=
  bif (s == []) then
   some false
  else
   bif (ltB 12 (List.length s : Int)) then
    some false
   else
    (ix s 0).bind fun c =>
    (s_schema_letter N (UInt8.toNat c : Int)).bind fun lett =>
    bif (!lett) then
     some false
    else
     (s_schema_Reserved N s).bind fun rese =>
     bif rese then
      some false
     else
      lp1 (s_schema_Name_1 N s) N 1
def s_value_core (N : Nat) (v : value_Value) : Option (Int ⊕ Int ⊕ Int ⊕ (List UInt8) ⊕ Unit) :=
  bif (v.Kind == 1) then
   some (Sum.inl v.N)
  else
   bif (v.Kind == 2) then
    some (Sum.inr (Sum.inl v.N))
   else
    bif (v.Kind == 3) then
     some (Sum.inr (Sum.inr (Sum.inl v.Bits)))
    else
     bif (v.Kind == 4) then
      some (Sum.inr (Sum.inr (Sum.inr (Sum.inl v.Text))))
     else
      some (Sum.inr (Sum.inr (Sum.inr (Sum.inr ()))))
def s_value_number_whole (N : Nat) (n : Int) : Option value_Value :=
  some (value_Value.mk 1 n 0 [])
def s_value_flag_whole (N : Nat) (n : Int) : Option value_Value :=
  some (value_Value.mk 2 n 0 [])
def s_value_double_whole (N : Nat) (u : Int) : Option value_Value :=
  some (value_Value.mk 3 0 u [])
def s_value_words_whole (N : Nat) (s : List UInt8) : Option value_Value :=
  some (value_Value.mk 4 0 0 s)
def s_value_Check (N : Nat) (v : value_Value) : Option Int :=
  (s_value_core N v).bind fun x => Sum.elim
  (fun core =>
   bif (ltB core (-4611686018427387904)) then
    some 8
   else
    bif (ltB 4611686018427387904 core) then
     some 8
    else
     (s_value_number_whole N core).bind fun whol =>
     bif (!((whol.Kind == v.Kind) && ((whol.N == v.N) && ((whol.Bits == v.Bits) && (whol.Text == v.Text))))) then
      some 2
     else
      some 0)
  (Sum.elim
  (fun core2 =>
   bif (core2 != 0) then
    bif (core2 != 1) then
     some 8
    else
     (s_value_flag_whole N core2).bind fun whol2 =>
     bif (!((whol2.Kind == v.Kind) && ((whol2.N == v.N) && ((whol2.Bits == v.Bits) && (whol2.Text == v.Text))))) then
      some 2
     else
      some 0
   else
    (s_value_flag_whole N core2).bind fun whol3 =>
    bif (!((whol3.Kind == v.Kind) && ((whol3.N == v.N) && ((whol3.Bits == v.Bits) && (whol3.Text == v.Text))))) then
     some 2
    else
     some 0)
  (Sum.elim
  (fun core3 =>
   (s_real_Clean N core3).bind fun clea =>
   bif (clea != core3) then
    some 4
   else
    (s_value_double_whole N core3).bind fun whol4 =>
    bif (!((whol4.Kind == v.Kind) && ((whol4.N == v.N) && ((whol4.Bits == v.Bits) && (whol4.Text == v.Text))))) then
     some 2
    else
     some 0)
  (Sum.elim
  (fun core4 =>
   bif (ltB 24 (List.length core4 : Int)) then
    some 5
   else
    (s_value_words_whole N core4).bind fun whol5 =>
    bif (!((whol5.Kind == v.Kind) && ((whol5.N == v.N) && ((whol5.Bits == v.Bits) && (whol5.Text == v.Text))))) then
     some 2
    else
     some 0)
  (fun core5 =>
   some 11)))) x
def s_pred_Node_lacks (N : Nat) (n : pred_Node) : Option Bool :=
  bif (n.Kind == 4) then
   (s_compare_Sign N n.Op).bind fun sign =>
   some (sign == [])
  else
   bif (n.Kind == 7) then
    (s_schema_Name N n.Name).bind fun name =>
    some (!name)
   else
    bif (n.Kind == 8) then
     (s_schema_Name N n.Name).bind fun name2 =>
     bif (!name2) then
      some true
     else
      (s_schema_Name N n.Var).bind fun name3 =>
      some (!name3)
    else
     bif (n.Kind == 9) then
      (s_value_Check N n.Val).bind fun chec =>
      some (chec != 0)
     else
      some false
def s_pred_is_v782 (N : Nat) (n : pred_Node) (e : Int) : Option Int :=
  (s_pred_Node_lacks N n).bind fun lack =>
  bif lack then
   some e
  else
   some 0
def moreZ (v : value_Value) : Bool := (v.Kind == 0) && ((v.N == 0) && ((v.Bits == 0) && (v.Text == [])))
def moreB (n : pred_Node) : Bool :=
  bif n.Kind == 4 then !((n.Var == []) && ((n.Name == []) && moreZ n.Val))
  else bif n.Kind == 7 then !((n.Op == 0) && ((n.Var == []) && moreZ n.Val))
  else bif n.Kind == 8 then !((n.Op == 0) && moreZ n.Val)
  else bif n.Kind == 9 then !((n.Op == 0) && ((n.Var == []) && (n.Name == [])))
  else !((n.Op == 0) && ((n.Var == []) && ((n.Name == []) && moreZ n.Val)))
def s_pred_Node_more (N : Nat) (n : pred_Node) : Option Bool := some (moreB n)
def s_pred_is_v272 (N : Nat) (n : pred_Node) (e : Int) : Option Int :=
  (s_pred_Node_more N n).bind fun more =>
  bif more then
   some e
  else
   some 0
def s_pred_Kids (N : Nat) (kind : Int) : Option Int :=
  bif (kind == 1) then
   bif (kind == 1) then
    some 2
   else
    bif (kind == 3) then
     some 1
    else
     some 0
  else
   bif (kind == 2) then
    bif (kind == 2) then
     some 2
    else
     bif (kind == 3) then
      some 1
     else
      some 0
   else
    bif (kind == 4) then
     bif (kind == 4) then
      some 2
     else
      bif (kind == 3) then
       some 1
      else
       some 0
    else
     bif (kind == 5) then
      bif (kind == 5) then
       some 2
      else
       bif (kind == 3) then
        some 1
       else
        some 0
     else
      bif (kind == 6) then
       some 2
      else
       bif (kind == 3) then
        some 1
       else
        some 0
def s_pred_Node_kid (N : Nat) (n : pred_Node) (which : Int) : Option Int :=
  bif (leB n.Kind 3) then
   some 0
  else
   bif (n.Kind == 4) then
    bif (n.Kind == 4) then
     some 1
    else
     some 2
   else
    bif (which == 0) then
     some 1
    else
     some 2
abbrev TS_pred_checker_tree_v739 : Type := (Int → Int → (List pred_Node) → Int → Option (Int × List pred_Node × Int))
def s_pred_checker_tree_v739_1 (N : Nat) (p : TS_pred_checker_tree_v739) (deep : Int) (kids : Int) (y5 : Int) (y6 : Int) (y7 : List UInt8) (y8 : List UInt8) (y9 : Int) (y10 : Int) (y11 : Int) (y12 : List UInt8) (next0 : Int → (List pred_Node) → Int → Option (Int × List pred_Node × Int)) (x : Int) (y3 : List pred_Node) (y4 : Int) : Option (Int × List pred_Node × Int) :=
  bif (ltB x kids) then
   (s_pred_Node_kid N (pred_Node.mk y5 y6 y7 y8 (value_Value.mk y9 y10 y11 y12)) x).bind fun kid =>
   gd (i64b (deep + 1)) (
   (p kid (deep + 1) y3 y4).bind fun tree =>
   bif (tree.1 != 0) then
    some (tree.1, tree.2.1, tree.2.2)
   else
    gd (i64b (x + 1)) (
    next0 (x + 1) tree.2.1 tree.2.2))
  else
   some (0, y3, y4)
def b_pred_checker_tree_v739 (N : Nat) (p : TS_pred_checker_tree_v739) (vwhere : Int) (deep : Int) (y : List pred_Node) (y2 : Int) : Option (Int × List pred_Node × Int) :=
  bif (leB (List.length y : Int) y2) then
   some (3, y, y2)
  else
   (ix y y2).bind fun e =>
   bif (leB 16 deep) then
    some (15, y, y2)
   else
    (s_pred_Node_stands N e vwhere).bind fun stan =>
    bif (!stan) then
     some (11, y, y2)
    else
     (s_pred_is_v782 N e 4).bind fun is =>
     bif (is != 0) then
      some (is, y, y2)
     else
      (s_pred_is_v272 N e 2).bind fun is2 =>
      bif (is2 != 0) then
       some (is2, y, y2)
      else
       gd (i64b (y2 + 1)) (
       (s_pred_Kids N e.Kind).bind fun kids =>
       lp3 (s_pred_checker_tree_v739_1 N p deep kids e.Kind e.Op e.Var e.Name e.Val.Kind e.Val.N e.Val.Bits e.Val.Text) N 0 y (y2 + 1))
def SS_pred_checker_tree_v739 (N : Nat) : TS_pred_checker_tree_v739 := Nat.rec (motive := fun _ => TS_pred_checker_tree_v739) (fun _ _ _ _ => none) (fun N p => (b_pred_checker_tree_v739 N p)) N
def s_pred_checker_tree_v739 (N : Nat) (vwhere : Int) (deep : Int) (y : List pred_Node) (y2 : Int) : Option (Int × List pred_Node × Int) := (SS_pred_checker_tree_v739 N) vwhere deep y y2
def s_pred_Check (N : Nat) (l : List pred_Node) : Option Int :=
  bif (ltB 30 (List.length l : Int)) then
   some 5
  else
   bif ((List.length l : Int) == 0) then
    some 0
   else
    (s_pred_checker_tree_v739 N 0 0 l 0).bind fun tree =>
    bif (tree.1 != 0) then
     some tree.1
    else
     bif (ltB tree.2.2 (List.length l : Int)) then
      some 5
     else
      some 0
def s_predtext_Parse (N : Nat) (l : List lex_Token) (at_ e : Int) : Option ((List pred_Node × Int) ⊕ (List pred_Node × Int × Int × Int)) :=
  bif ltB at_ 0 then some (.inr ([], 0, 2, 0))
  else bif ltB (l.length : Int) at_ then some (.inr ([], 0, 2, 0))
  else (s_predtext_parser_place_v424 N l at_ e).bind fun x =>
    (s_predtext_parser_or_v927 N 0 x.2.1 x.2.2.1 x.2.2.2).bind fun y => Sum.elim
      (fun p => gd (p.1 != 0) (some (.inr ([], 0, p.1, p.2.1))))
      (fun r => (s_pred_Check N r.1).bind fun c => bif c != 0 then some (.inr ([], 0, c, x.1)) else some (.inl (r.1, r.2.2.1))) y
def s_predtext_Read (N : Nat) (s : List UInt8) : Option ((List pred_Node) ⊕ (List pred_Node × Int × Int)) :=
  (s_lex_Scan N s).bind fun x => Sum.elim
  (fun scan =>
   bif ((List.length scan : Int) == 0) then
    some (Sum.inl [])
   else
    (s_predtext_Parse N scan 0 (List.length s : Int)).bind fun x => Sum.elim
    (fun pars =>
     bif (ltB pars.2 (List.length scan : Int)) then
      (ix scan pars.2).bind fun e =>
      (s_fault_New N 4 e.At).bind fun x => Sum.elim
      (fun new =>
       some (Sum.inl []))
      (fun new2 =>
       some (Sum.inr ([], new2.1, new2.2))) x
     else
      some (Sum.inl pars.1))
    (fun pars2 =>
     some (Sum.inr ([], pars2.2.2.1, pars2.2.2.2))) x)
  (fun scan2 =>
   some (Sum.inr ([], scan2.2.1, scan2.2.2))) x
def s_pred_bound (N : Nat) (kind : Int) : Option Int :=
  bif (kind == 2) then
   some 1
  else
   bif (kind == 1) then
    some 2
   else
    some 3
def dgF : Nat → Nat → List UInt8
  | 0, _ => []
  | f + 1, m => (if m / 10 = 0 then [] else dgF f (m / 10)) ++ [UInt8.ofNat (48 + m % 10)]
def whS (n : Int) : List UInt8 := (if n < 0 then [45] else []) ++ dgF 20 n.natAbs
def s_lex_whole (N : Nat) (n : Int) : Option (List UInt8) := gd (leB (-4611686018427387904) n && leB n 4611686018427387904) (some (whS n))
def hexB (n : Nat) : UInt8 := if n < 10 then UInt8.ofNat (48 + n) else UInt8.ofNat (87 + n)
def hxS : Nat → Nat → List UInt8
  | 0, _ => []
  | k + 1, u => hexB (u / 16 ^ k % 16) :: hxS k u
def bitS (u : Nat) : List UInt8 := 35 :: hxS 16 u
def s_lex_bits (N : Nat) (u : Int) : Option (List UInt8) := gd (leB 0 u && ltB u 18446744073709551616) (some (bitS u.toNat))
def txC (c : UInt8) : List UInt8 := if c = 39 then [39, 39] else if c < 32 ∨ 126 < c ∨ c = 92 then [92, hexB (c.toNat / 16), hexB (c.toNat % 16)] else [c]
def txS (s : List UInt8) : List UInt8 := [39] ++ s.flatMap txC ++ [39]
def s_lex_text (N : Nat) (s : List UInt8) : Option (List UInt8) := gd (Nat.ble s.length 10000000000) (some (txS s))
def s_lex_Literal (N : Nat) (v : value_Value) : Option (List UInt8) :=
  (s_value_Check N v).bind fun chec =>
  bif (chec != 0) then
   some []
  else
   bif (v.Kind == 1) then
    (s_lex_whole N v.N).bind fun whol =>
    some whol
   else
    bif (v.Kind == 2) then
     bif (v.N == 0) then
      some [102, 97, 108, 115, 101]
     else
      some [116, 114, 117, 101]
    else
     bif (v.Kind == 3) then
      (s_lex_bits N v.Bits).bind fun bits =>
      some bits
     else
      (s_lex_text N v.Text).bind fun text =>
      some text
abbrev TS_pred_printer_tree_v501 : Type := ((List pred_Node) → Int → Option (List UInt8 × List pred_Node × Int)) × ((List UInt8) → Int → Int → (List pred_Node) → Int → Option (List UInt8 × List pred_Node × Int)) × (Int → (List pred_Node) → Int → Option (List UInt8 × List pred_Node × Int))
def b_pred_printer_tree_v501 (N : Nat) (p : TS_pred_printer_tree_v501) (y : List pred_Node) (y2 : Int) : Option (List UInt8 × List pred_Node × Int) :=
  (ix y y2).bind fun e =>
  gd (i64b (y2 + 1)) (
  bif (e.Kind == 2) then
   (p.2.1 [111, 114] 1 2 y (y2 + 1)).bind fun two =>
   some (two.1, two.2.1, two.2.2)
  else
   bif (e.Kind == 1) then
    (p.2.1 [97, 110, 100] 2 3 y (y2 + 1)).bind fun two2 =>
    some (two2.1, two2.2.1, two2.2.2)
   else
    bif (e.Kind == 3) then
     (p.2.2 3 y (y2 + 1)).bind fun vwith =>
     gd (Nat.ble (4 + (List.length vwith.1)) 9223372036854775807) (
     some ((110 :: 111 :: 116 :: 32 :: vwith.1), vwith.2.1, vwith.2.2))
    else
     bif (e.Kind == 4) then
      (s_compare_Sign N e.Op).bind fun sign =>
      (p.2.1 sign 0 0 y (y2 + 1)).bind fun two3 =>
      some (two3.1, two3.2.1, two3.2.2)
     else
      bif (e.Kind == 5) then
       (p.2.1 [43] 0 0 y (y2 + 1)).bind fun two4 =>
       some (two4.1, two4.2.1, two4.2.2)
      else
       bif (e.Kind == 6) then
        (p.2.1 [45] 0 0 y (y2 + 1)).bind fun two5 =>
        some (two5.1, two5.2.1, two5.2.2)
       else
        bif (e.Kind == 7) then
         some (e.Name, y, (y2 + 1))
        else
         bif (e.Kind == 8) then
          gd (Nat.ble ((List.length e.Var) + 1) 9223372036854775807) (
          gd (Nat.ble ((List.length (e.Var ++ [46])) + (List.length e.Name)) 9223372036854775807) (
          some (((e.Var ++ [46]) ++ e.Name), y, (y2 + 1))))
         else
          (s_lex_Literal N e.Val).bind fun lite =>
          some (lite, y, (y2 + 1)))
def b_pred_printer_two_v304 (N : Nat) (p : TS_pred_printer_tree_v501) (word : List UInt8) (left : Int) (right : Int) (y : List pred_Node) (y2 : Int) : Option (List UInt8 × List pred_Node × Int) :=
  (p.2.2 left y y2).bind fun vwith =>
  gd (Nat.ble ((List.length vwith.1) + 1) 9223372036854775807) (
  gd (Nat.ble ((List.length (vwith.1 ++ [32])) + (List.length word)) 9223372036854775807) (
  gd (Nat.ble ((List.length ((vwith.1 ++ [32]) ++ word)) + 1) 9223372036854775807) (
  (p.2.2 right vwith.2.1 vwith.2.2).bind fun vwith2 =>
  gd (Nat.ble ((List.length (((vwith.1 ++ [32]) ++ word) ++ [32])) + (List.length vwith2.1)) 9223372036854775807) (
  some (((((vwith.1 ++ [32]) ++ word) ++ [32]) ++ vwith2.1), vwith2.2.1, vwith2.2.2)))))
def b_pred_printer_within_v996 (N : Nat) (p : TS_pred_printer_tree_v501) (least : Int) (y : List pred_Node) (y2 : Int) : Option (List UInt8 × List pred_Node × Int) :=
  (ix y y2).bind fun e =>
  (s_pred_bound N e.Kind).bind fun boun =>
  bif (ltB boun least) then
   (p.1 y y2).bind fun tree =>
   gd (Nat.ble (1 + (List.length tree.1)) 9223372036854775807) (
   gd (Nat.ble ((List.length tree.1 + 1) + 1) 9223372036854775807) (
   some ((40 :: (tree.1 ++ [41])), tree.2.1, tree.2.2)))
  else
   (p.1 y y2).bind fun tree2 =>
   some (tree2.1, tree2.2.1, tree2.2.2)
def SS_pred_printer_tree_v501 (N : Nat) : TS_pred_printer_tree_v501 := Nat.rec (motive := fun _ => TS_pred_printer_tree_v501) ((fun _ _ => none), (fun _ _ _ _ _ => none), (fun _ _ _ => none)) (fun N p => ((b_pred_printer_tree_v501 N p), (b_pred_printer_two_v304 N p), (b_pred_printer_within_v996 N p))) N
def s_pred_printer_tree_v501 (N : Nat) (y : List pred_Node) (y2 : Int) : Option (List UInt8 × List pred_Node × Int) := (SS_pred_printer_tree_v501 N).1 y y2
def s_pred_printer_two_v304 (N : Nat) (word : List UInt8) (left : Int) (right : Int) (y : List pred_Node) (y2 : Int) : Option (List UInt8 × List pred_Node × Int) := (SS_pred_printer_tree_v501 N).2.1 word left right y y2
def s_pred_printer_within_v996 (N : Nat) (least : Int) (y : List pred_Node) (y2 : Int) : Option (List UInt8 × List pred_Node × Int) := (SS_pred_printer_tree_v501 N).2.2 least y y2
def s_pred_Print (N : Nat) (l : List pred_Node) : Option (List UInt8) :=
  bif ((List.length l : Int) == 0) then
   some []
  else
   (s_pred_Check N l).bind fun chec =>
   bif (chec != 0) then
    some []
   else
    (s_pred_printer_tree_v501 N l 0).bind fun tree =>
    some tree.1
def s_fault_Code_n (N : Nat) : Option Int :=
  some 0
def s_fault_find_n (N : Nat) : Option Unit := some ()
def s_fault_At_n (N : Nat) : Option Int :=
  (s_fault_find_n N).bind fun find =>
  some 0
def s_fault_find_f (N : Nat) (e p : Int) : Option (Int × Int) := some (e, p)
def s_fault_Code_f (N : Nat) (err : Int) (err2 : Int) : Option Int :=
  (s_fault_find_f N err err2).bind fun find =>
  some find.1
def s_fault_At_f (N : Nat) (err : Int) (err2 : Int) : Option Int :=
  (s_fault_find_f N err err2).bind fun find =>
  some find.2
def s_law12_awake (N : Nat) : Option Bool := bif Nat.ble 64 N then some true else none
def s_ref06_Reserved_1 (N : Nat) (s : List UInt8) (ys : List (List UInt8)) (next0 : Int → Option Bool) (i : Int) : Option Bool :=
  bif (ltB i (List.length ys : Int)) then
   (ix ys i).bind fun e =>
   (ix ys i).bind fun e2 =>
   bif (e2 == s) then
    some true
   else
    gd (i64b (i + 1)) (
    next0 (i + 1))
  else
   some false
def s_ref06_Reserved (N : Nat) (s : List UInt8) : Option Bool :=
  lp1 (s_ref06_Reserved_1 N s [[119, 105, 116, 104, 105, 110], [98, 121], [97, 110, 100], [111, 114], [110, 111, 116], [97, 110, 121], [110, 101, 120, 116], [115, 116, 114, 105, 99, 116], [116, 114, 117, 101], [102, 97, 108, 115, 101]]) N 0
def s_ref03_Exp (N : Nat) (u : Int) : Option Int :=
  some (IntKind.i64.wrap (Int.tmod (IntKind.u64.wrap (Int.tdiv u 4503599627370496)) 2048))
def s_ref03_Frac (N : Nat) (u : Int) : Option Int :=
  some (Int.tmod u 4503599627370496)
def s_ref03_Kind (N : Nat) (u : Int) : Option Int :=
  (s_ref03_Exp N u).bind fun exp =>
  bif (exp == 2047) then
   (s_ref03_Frac N u).bind fun frac =>
   bif (frac != 0) then
    some 5
   else
    (s_ref03_Exp N u).bind fun exp2 =>
    bif (exp2 == 2047) then
     some 4
    else
     (s_ref03_Exp N u).bind fun exp3 =>
     bif (exp3 != 0) then
      some 3
     else
      (s_ref03_Frac N u).bind fun frac2 =>
      bif (frac2 != 0) then
       some 2
      else
       some 1
  else
   (s_ref03_Exp N u).bind fun exp4 =>
   bif (exp4 == 2047) then
    some 4
   else
    (s_ref03_Exp N u).bind fun exp5 =>
    bif (exp5 != 0) then
     some 3
    else
     (s_ref03_Frac N u).bind fun frac3 =>
     bif (frac3 != 0) then
      some 2
     else
      some 1
def s_ref03_Clean (N : Nat) (u : Int) : Option Int :=
  (s_ref03_Kind N u).bind fun kind =>
  bif (kind == 5) then
   some 9221120237041090560
  else
   some u
def s_ref12_is (N : Nat) (s : ref12_State) (kind : Int) (text : List UInt8) : Option Bool :=
  bif (ltB s.At (List.length s.L : Int)) then
   (ix s.L s.At).bind fun e =>
   bif (e.Kind == kind) then
    (ix s.L s.At).bind fun e2 =>
    some (e2.Text == text)
   else
    some false
  else
   some false
def s_ref12_place (N : Nat) (s : ref12_State) : Option Int :=
  bif (ltB s.At (List.length s.L : Int)) then
   (ix s.L s.At).bind fun e =>
   some e.At
  else
   some s.End
def s_ref12_fail (N : Nat) (s : ref12_State) (e : Int) : Option ref12_State :=
  bif (s.F.E == 0) then
   (s_ref12_place N s).bind fun plac =>
   some (ref12_State.mk s.L s.At s.End (fault_Fault.mk e plac))
  else
   some s
def s_ref12_step (N : Nat) (s : ref12_State) : Option ref12_State :=
  gd (i64b (s.At + 1)) (
  some (ref12_State.mk s.L (s.At + 1) s.End s.F))
def s_ref12_join (N : Nat) (n : pred_Node) (va : List pred_Node) (b : List pred_Node) : Option (List pred_Node) :=
  gd (Nat.ble ((1 + List.length va) * 80) 140737488355328) (
  gd (Nat.ble ((List.length va + 1 + List.length b) * 80) 140737488355328) (
  some (n :: (va ++ b))))
def s_ref12_kind (N : Nat) (s : ref12_State) (kind : Int) : Option Bool :=
  bif (ltB s.At (List.length s.L : Int)) then
   (ix s.L s.At).bind fun e =>
   some (e.Kind == kind)
  else
   some false
def s_ref12_unit (N : Nat) (s : ref12_State) : Option (List pred_Node × ref12_State) :=
  (s_ref12_kind N s 3).bind fun kind =>
  bif kind then
   (ix s.L s.At).bind fun e =>
   (s_ref12_step N s).bind fun step =>
   some ([(pred_Node.mk 9 0 [] [] e.Val)], step)
  else
   (s_ref12_is N s 4 [45]).bind fun is =>
   bif is then
    (s_ref12_step N s).bind fun step2 =>
    (s_ref12_kind N step2 3).bind fun kind2 =>
    bif (!kind2) then
     (s_ref12_fail N step2 4).bind fun fail =>
     some ([], fail)
    else
     (ix step2.L step2.At).bind fun e2 =>
     bif (e2.Val.Kind != 1) then
      (s_ref12_fail N step2 4).bind fun fail2 =>
      some ([], fail2)
     else
      (ix step2.L step2.At).bind fun e3 =>
      (s_ref12_step N step2).bind fun step3 =>
      some ([(pred_Node.mk 9 0 [] [] (value_Value.mk e3.Val.Kind (IntKind.i64.wrap (0 - e3.Val.N)) e3.Val.Bits e3.Val.Text))], step3)
   else
    (s_ref12_kind N s 1).bind fun kind3 =>
    bif (!kind3) then
     (s_ref12_fail N s 4).bind fun fail3 =>
     some ([], fail3)
    else
     (ix s.L s.At).bind fun e4 =>
     (s_ref12_step N s).bind fun step4 =>
     (s_ref12_is N step4 4 [46]).bind fun is2 =>
     bif (!is2) then
      some ([(pred_Node.mk 7 0 [] e4.Text (value_Value.mk 0 0 0 []))], step4)
     else
      (s_ref12_step N step4).bind fun step5 =>
      (s_ref12_kind N step5 1).bind fun kind4 =>
      bif (!kind4) then
       (s_ref12_fail N step5 4).bind fun fail4 =>
       some ([], fail4)
      else
       (ix step5.L step5.At).bind fun e5 =>
       (s_ref12_step N step5).bind fun step6 =>
       some ([(pred_Node.mk 8 0 e4.Text e5.Text (value_Value.mk 0 0 0 []))], step6)
def s_ref12_sum_1 (N : Nat) (next0 : (List pred_Node) → (List lex_Token) → Int → Int → Int → Int → Option (List pred_Node × ref12_State)) (l : List pred_Node) (y : List lex_Token) (y2 : Int) (y3 : Int) (y4 : Int) (y5 : Int) : Option (List pred_Node × ref12_State) :=
  bif (y4 == 0) then
   (s_ref12_is N (ref12_State.mk y y2 y3 (fault_Fault.mk y4 y5)) 4 [43]).bind fun is =>
   bif is then
    (s_ref12_is N (ref12_State.mk y y2 y3 (fault_Fault.mk y4 y5)) 4 [45]).bind fun is2 =>
    bif is2 then
     (s_ref12_step N (ref12_State.mk y y2 y3 (fault_Fault.mk y4 y5))).bind fun step =>
     (s_ref12_unit N step).bind fun unit2 =>
     (s_ref12_join N (pred_Node.mk 6 0 [] [] (value_Value.mk 0 0 0 [])) l unit2.1).bind fun join =>
     next0 join unit2.2.L unit2.2.At unit2.2.End unit2.2.F.E unit2.2.F.At
    else
     (s_ref12_step N (ref12_State.mk y y2 y3 (fault_Fault.mk y4 y5))).bind fun step2 =>
     (s_ref12_unit N step2).bind fun unit3 =>
     (s_ref12_join N (pred_Node.mk 5 0 [] [] (value_Value.mk 0 0 0 [])) l unit3.1).bind fun join2 =>
     next0 join2 unit3.2.L unit3.2.At unit3.2.End unit3.2.F.E unit3.2.F.At
   else
    (s_ref12_is N (ref12_State.mk y y2 y3 (fault_Fault.mk y4 y5)) 4 [45]).bind fun is3 =>
    bif is3 then
     (s_ref12_is N (ref12_State.mk y y2 y3 (fault_Fault.mk y4 y5)) 4 [45]).bind fun is4 =>
     bif is4 then
      (s_ref12_step N (ref12_State.mk y y2 y3 (fault_Fault.mk y4 y5))).bind fun step3 =>
      (s_ref12_unit N step3).bind fun unit4 =>
      (s_ref12_join N (pred_Node.mk 6 0 [] [] (value_Value.mk 0 0 0 [])) l unit4.1).bind fun join3 =>
      next0 join3 unit4.2.L unit4.2.At unit4.2.End unit4.2.F.E unit4.2.F.At
     else
      (s_ref12_step N (ref12_State.mk y y2 y3 (fault_Fault.mk y4 y5))).bind fun step4 =>
      (s_ref12_unit N step4).bind fun unit5 =>
      (s_ref12_join N (pred_Node.mk 5 0 [] [] (value_Value.mk 0 0 0 [])) l unit5.1).bind fun join4 =>
      next0 join4 unit5.2.L unit5.2.At unit5.2.End unit5.2.F.E unit5.2.F.At
    else
     some (l, (ref12_State.mk y y2 y3 (fault_Fault.mk y4 y5)))
  else
   some (l, (ref12_State.mk y y2 y3 (fault_Fault.mk y4 y5)))
def s_ref12_sum (N : Nat) (s : ref12_State) : Option (List pred_Node × ref12_State) :=
  (s_ref12_unit N s).bind fun unit =>
  lp6 (s_ref12_sum_1 N) N unit.1 unit.2.L unit.2.At unit.2.End unit.2.F.E unit.2.F.At
def s_ref05_Sign (N : Nat) (op : Int) : Option (List UInt8) :=
  bif (ltB 6 op) then
   some []
  else
   (ix ([[], [61], [33, 61], [60], [60, 61], [62], [62, 61]] : List (List UInt8)) op).bind fun e =>
   (ix ([[], [61], [33, 61], [60], [60, 61], [62], [62, 61]] : List (List UInt8)) op).bind fun e2 =>
   some e2
def s_ref05_Op_1 (N : Nat) (sign : List UInt8) (next0 : Int → Option Int) (op : Int) : Option Int :=
  bif (leB op 6) then
   (s_ref05_Sign N op).bind fun sign2 =>
   bif (sign2 == sign) then
    some op
   else
    next0 (IntKind.u8.wrap (op + 1))
  else
   some 0
def s_ref05_Op (N : Nat) (sign : List UInt8) : Option Int :=
  lp1 (s_ref05_Op_1 N sign) N 1
abbrev TS_ref12_or : Type := (ref12_State → Int → Option (List pred_Node × ref12_State)) × (ref12_State → Int → Option (List pred_Node × ref12_State)) × (ref12_State → Int → Option (List pred_Node × ref12_State))
def s_ref12_or_1 (N : Nat) (p : TS_ref12_or) (deep : Int) (next0 : (List pred_Node) → (List lex_Token) → Int → Int → Int → Int → Option (List pred_Node × ref12_State)) (l : List pred_Node) (y : List lex_Token) (y2 : Int) (y3 : Int) (y4 : Int) (y5 : Int) : Option (List pred_Node × ref12_State) :=
  bif (y4 == 0) then
   (s_ref12_is N (ref12_State.mk y y2 y3 (fault_Fault.mk y4 y5)) 2 [111, 114]).bind fun is =>
   bif is then
    (s_ref12_step N (ref12_State.mk y y2 y3 (fault_Fault.mk y4 y5))).bind fun step =>
    (p.2.1 step deep).bind fun and2 =>
    (s_ref12_join N (pred_Node.mk 2 0 [] [] (value_Value.mk 0 0 0 [])) l and2.1).bind fun join =>
    next0 join and2.2.L and2.2.At and2.2.End and2.2.F.E and2.2.F.At
   else
    some (l, (ref12_State.mk y y2 y3 (fault_Fault.mk y4 y5)))
  else
   some (l, (ref12_State.mk y y2 y3 (fault_Fault.mk y4 y5)))
def b_ref12_or (N : Nat) (p : TS_ref12_or) (s : ref12_State) (deep : Int) : Option (List pred_Node × ref12_State) :=
  (p.2.1 s deep).bind fun and =>
  lp6 (s_ref12_or_1 N p deep) N and.1 and.2.L and.2.At and.2.End and.2.F.E and.2.F.At
def s_ref12_and_1 (N : Nat) (p : TS_ref12_or) (deep : Int) (next0 : (List pred_Node) → (List lex_Token) → Int → Int → Int → Int → Option (List pred_Node × ref12_State)) (l : List pred_Node) (y : List lex_Token) (y2 : Int) (y3 : Int) (y4 : Int) (y5 : Int) : Option (List pred_Node × ref12_State) :=
  bif (y4 == 0) then
   (s_ref12_is N (ref12_State.mk y y2 y3 (fault_Fault.mk y4 y5)) 2 [97, 110, 100]).bind fun is =>
   bif is then
    (s_ref12_step N (ref12_State.mk y y2 y3 (fault_Fault.mk y4 y5))).bind fun step =>
    (p.2.2 step deep).bind fun part2 =>
    (s_ref12_join N (pred_Node.mk 1 0 [] [] (value_Value.mk 0 0 0 [])) l part2.1).bind fun join =>
    next0 join part2.2.L part2.2.At part2.2.End part2.2.F.E part2.2.F.At
   else
    some (l, (ref12_State.mk y y2 y3 (fault_Fault.mk y4 y5)))
  else
   some (l, (ref12_State.mk y y2 y3 (fault_Fault.mk y4 y5)))
def b_ref12_and (N : Nat) (p : TS_ref12_or) (s : ref12_State) (deep : Int) : Option (List pred_Node × ref12_State) :=
  (p.2.2 s deep).bind fun part =>
  lp6 (s_ref12_and_1 N p deep) N part.1 part.2.L part.2.At part.2.End part.2.F.E part.2.F.At
def b_ref12_part (N : Nat) (p : TS_ref12_or) (s : ref12_State) (deep : Int) : Option (List pred_Node × ref12_State) :=
  (s_ref12_is N s 2 [110, 111, 116]).bind fun is =>
  (s_ref12_is N s 4 [40]).bind fun is2 =>
  bif is then
   bif (leB 16 deep) then
    (s_ref12_fail N s 15).bind fun fail =>
    some ([], fail)
   else
    bif is then
     (s_ref12_step N s).bind fun step =>
     gd (i64b (deep + 1)) (
     (p.2.2 step (deep + 1)).bind fun part =>
     (s_ref12_join N (pred_Node.mk 3 0 [] [] (value_Value.mk 0 0 0 [])) part.1 []).bind fun join =>
     some (join, part.2))
    else
     bif is2 then
      (s_ref12_step N s).bind fun step2 =>
      gd (i64b (deep + 1)) (
      (p.1 step2 (deep + 1)).bind fun or =>
      bif (or.2.F.E == 0) then
       (s_ref12_is N or.2 4 [41]).bind fun is3 =>
       bif (!is3) then
        (s_ref12_fail N or.2 4).bind fun fail2 =>
        some ([], fail2)
       else
        (s_ref12_step N or.2).bind fun step3 =>
        some (or.1, step3)
      else
       (s_ref12_step N or.2).bind fun step4 =>
       some (or.1, step4))
     else
      (s_ref12_sum N s).bind fun sum =>
      bif (sum.2.F.E != 0) then
       some ([], sum.2)
      else
       (s_ref12_kind N sum.2 4).bind fun kind =>
       bif kind then
        (ix sum.2.L sum.2.At).bind fun e =>
        (s_ref05_Op N e.Text).bind fun op =>
        bif (op == 0) then
         (s_ref12_fail N sum.2 4).bind fun fail3 =>
         some ([], fail3)
        else
         (s_ref12_step N sum.2).bind fun step5 =>
         (s_ref12_sum N step5).bind fun sum2 =>
         (s_ref12_join N (pred_Node.mk 4 op [] [] (value_Value.mk 0 0 0 [])) sum.1 sum2.1).bind fun join2 =>
         some (join2, sum2.2)
       else
        (s_ref12_fail N sum.2 4).bind fun fail4 =>
        some ([], fail4)
  else
   bif is2 then
    bif (leB 16 deep) then
     (s_ref12_fail N s 15).bind fun fail5 =>
     some ([], fail5)
    else
     bif is then
      (s_ref12_step N s).bind fun step6 =>
      gd (i64b (deep + 1)) (
      (p.2.2 step6 (deep + 1)).bind fun part2 =>
      (s_ref12_join N (pred_Node.mk 3 0 [] [] (value_Value.mk 0 0 0 [])) part2.1 []).bind fun join3 =>
      some (join3, part2.2))
     else
      bif is2 then
       (s_ref12_step N s).bind fun step7 =>
       gd (i64b (deep + 1)) (
       (p.1 step7 (deep + 1)).bind fun or2 =>
       bif (or2.2.F.E == 0) then
        (s_ref12_is N or2.2 4 [41]).bind fun is4 =>
        bif (!is4) then
         (s_ref12_fail N or2.2 4).bind fun fail6 =>
         some ([], fail6)
        else
         (s_ref12_step N or2.2).bind fun step8 =>
         some (or2.1, step8)
       else
        (s_ref12_step N or2.2).bind fun step9 =>
        some (or2.1, step9))
      else
       (s_ref12_sum N s).bind fun sum3 =>
       bif (sum3.2.F.E != 0) then
        some ([], sum3.2)
       else
        (s_ref12_kind N sum3.2 4).bind fun kind2 =>
        bif kind2 then
         (ix sum3.2.L sum3.2.At).bind fun e2 =>
         (s_ref05_Op N e2.Text).bind fun op2 =>
         bif (op2 == 0) then
          (s_ref12_fail N sum3.2 4).bind fun fail7 =>
          some ([], fail7)
         else
          (s_ref12_step N sum3.2).bind fun step10 =>
          (s_ref12_sum N step10).bind fun sum4 =>
          (s_ref12_join N (pred_Node.mk 4 op2 [] [] (value_Value.mk 0 0 0 [])) sum3.1 sum4.1).bind fun join4 =>
          some (join4, sum4.2)
        else
         (s_ref12_fail N sum3.2 4).bind fun fail8 =>
         some ([], fail8)
   else
    bif is then
     (s_ref12_step N s).bind fun step11 =>
     gd (i64b (deep + 1)) (
     (p.2.2 step11 (deep + 1)).bind fun part3 =>
     (s_ref12_join N (pred_Node.mk 3 0 [] [] (value_Value.mk 0 0 0 [])) part3.1 []).bind fun join5 =>
     some (join5, part3.2))
    else
     bif is2 then
      (s_ref12_step N s).bind fun step12 =>
      gd (i64b (deep + 1)) (
      (p.1 step12 (deep + 1)).bind fun or3 =>
      bif (or3.2.F.E == 0) then
       (s_ref12_is N or3.2 4 [41]).bind fun is5 =>
       bif (!is5) then
        (s_ref12_fail N or3.2 4).bind fun fail9 =>
        some ([], fail9)
       else
        (s_ref12_step N or3.2).bind fun step13 =>
        some (or3.1, step13)
      else
       (s_ref12_step N or3.2).bind fun step14 =>
       some (or3.1, step14))
     else
      (s_ref12_sum N s).bind fun sum5 =>
      bif (sum5.2.F.E != 0) then
       some ([], sum5.2)
      else
       (s_ref12_kind N sum5.2 4).bind fun kind3 =>
       bif kind3 then
        (ix sum5.2.L sum5.2.At).bind fun e3 =>
        (s_ref05_Op N e3.Text).bind fun op3 =>
        bif (op3 == 0) then
         (s_ref12_fail N sum5.2 4).bind fun fail10 =>
         some ([], fail10)
        else
         (s_ref12_step N sum5.2).bind fun step15 =>
         (s_ref12_sum N step15).bind fun sum6 =>
         (s_ref12_join N (pred_Node.mk 4 op3 [] [] (value_Value.mk 0 0 0 [])) sum5.1 sum6.1).bind fun join6 =>
         some (join6, sum6.2)
       else
        (s_ref12_fail N sum5.2 4).bind fun fail11 =>
        some ([], fail11)
def SS_ref12_or (N : Nat) : TS_ref12_or := Nat.rec (motive := fun _ => TS_ref12_or) ((fun _ _ => none), (fun _ _ => none), (fun _ _ => none)) (fun N p => ((b_ref12_or N p), (b_ref12_and N p), (b_ref12_part N p))) N
def s_ref12_or (N : Nat) (s : ref12_State) (deep : Int) : Option (List pred_Node × ref12_State) := (SS_ref12_or N).1 s deep
def s_ref12_and (N : Nat) (s : ref12_State) (deep : Int) : Option (List pred_Node × ref12_State) := (SS_ref12_or N).2.1 s deep
def s_ref12_part (N : Nat) (s : ref12_State) (deep : Int) : Option (List pred_Node × ref12_State) := (SS_ref12_or N).2.2 s deep
def s_ref11_may (N : Nat) (kind : Int) (vwhere : Int) : Option Bool :=
  bif (vwhere == 1) then
   bif (leB 1 kind) then
    some (leB kind 4)
   else
    some false
  else
   bif (vwhere == 2) then
    bif (leB 5 kind) then
     some (leB kind 9)
    else
     some false
   else
    bif (leB 7 kind) then
     some (leB kind 9)
    else
     some false
def s_ref06_Name_1 (N : Nat) (s : List UInt8) (next0 : Int → Option Bool) (i : Int) : Option Bool :=
  bif (ltB i (List.length s : Int)) then
   (ix s i).bind fun c =>
   bif (leB 97 (UInt8.toNat c : Int)) then
    (ix s i).bind fun c2 =>
    (ix s i).bind fun c3 =>
    bif (leB 48 (UInt8.toNat c3 : Int)) then
     (ix s i).bind fun c4 =>
     bif (leB (UInt8.toNat c4 : Int) 57) then
      bif (!(leB (UInt8.toNat c2 : Int) 122)) then
       bif (i == 0) then
        some false
       else
        gd (i64b (i + 1)) (
        next0 (i + 1))
      else
       gd (i64b (i + 1)) (
       next0 (i + 1))
     else
      (ix s i).bind fun c5 =>
      bif (!(leB (UInt8.toNat c2 : Int) 122)) then
       bif (i == 0) then
        some false
       else
        bif (!((UInt8.toNat c5 : Int) == 95)) then
         some false
        else
         gd (i64b (i + 1)) (
         next0 (i + 1))
      else
       gd (i64b (i + 1)) (
       next0 (i + 1))
    else
     (ix s i).bind fun c6 =>
     bif (!(leB (UInt8.toNat c2 : Int) 122)) then
      bif (i == 0) then
       some false
      else
       bif (!((UInt8.toNat c6 : Int) == 95)) then
        some false
       else
        gd (i64b (i + 1)) (
        next0 (i + 1))
     else
      gd (i64b (i + 1)) (
      next0 (i + 1))
   else
    (ix s i).bind fun c7 =>
    bif (leB 48 (UInt8.toNat c7 : Int)) then
     (ix s i).bind fun c8 =>
     bif (leB (UInt8.toNat c8 : Int) 57) then
      bif (i == 0) then
       some false
      else
       gd (i64b (i + 1)) (
       next0 (i + 1))
     else
      (ix s i).bind fun c9 =>
      bif (i == 0) then
       some false
      else
       bif (!((UInt8.toNat c9 : Int) == 95)) then
        some false
       else
        gd (i64b (i + 1)) (
        next0 (i + 1))
    else
     (ix s i).bind fun c10 =>
     bif (i == 0) then
      some false
     else
      bif (!((UInt8.toNat c10 : Int) == 95)) then
       some false
      else
       gd (i64b (i + 1)) (
       next0 (i + 1))
  else
   some true
def s_ref06_Name (N : Nat) (s : List UInt8) : Option Bool :=
  bif (ltB (List.length s : Int) 1) then
   some false
  else
   bif (ltB 12 (List.length s : Int)) then
    some false
   else
    (s_ref06_Reserved N s).bind fun rese =>
    bif rese then
     some false
    else
     lp1 (s_ref06_Name_1 N s) N 0
def s_ref04_Check (N : Nat) (v : value_Value) : Option Int :=
  bif (ltB v.Kind 1) then
   some 11
  else
   bif (ltB 4 v.Kind) then
    some 11
   else
    bif (v.Kind == 1) then
     bif (ltB v.N (-4611686018427387904)) then
      some 8
     else
      bif (ltB 4611686018427387904 v.N) then
       some 8
      else
       bif (v.Kind == 2) then
        bif (ltB v.N 0) then
         some 8
        else
         bif (ltB 1 v.N) then
          some 8
         else
          bif (v.Kind == 3) then
           (s_ref03_Clean N v.Bits).bind fun clea =>
           bif (clea != v.Bits) then
            some 4
           else
            bif (v.Kind == 4) then
             bif (ltB 24 (List.length v.Text : Int)) then
              some 5
             else
              bif (ltB 2 v.Kind) then
               bif (v.N != 0) then
                some 2
               else
                bif (v.Kind != 3) then
                 bif (v.Bits != 0) then
                  some 2
                 else
                  bif (v.Kind != 4) then
                   bif (!(v.Text == [])) then
                    some 2
                   else
                    some 0
                  else
                   some 0
                else
                 bif (v.Kind != 4) then
                  bif (!(v.Text == [])) then
                   some 2
                  else
                   some 0
                 else
                  some 0
              else
               bif (v.Kind != 3) then
                bif (v.Bits != 0) then
                 some 2
                else
                 bif (v.Kind != 4) then
                  bif (!(v.Text == [])) then
                   some 2
                  else
                   some 0
                 else
                  some 0
               else
                bif (v.Kind != 4) then
                 bif (!(v.Text == [])) then
                  some 2
                 else
                  some 0
                else
                 some 0
            else
             bif (ltB 2 v.Kind) then
              bif (v.N != 0) then
               some 2
              else
               bif (v.Kind != 3) then
                bif (v.Bits != 0) then
                 some 2
                else
                 bif (v.Kind != 4) then
                  bif (!(v.Text == [])) then
                   some 2
                  else
                   some 0
                 else
                  some 0
               else
                bif (v.Kind != 4) then
                 bif (!(v.Text == [])) then
                  some 2
                 else
                  some 0
                else
                 some 0
             else
              bif (v.Kind != 3) then
               bif (v.Bits != 0) then
                some 2
               else
                bif (v.Kind != 4) then
                 bif (!(v.Text == [])) then
                  some 2
                 else
                  some 0
                else
                 some 0
              else
               bif (v.Kind != 4) then
                bif (!(v.Text == [])) then
                 some 2
                else
                 some 0
               else
                some 0
          else
           bif (v.Kind == 4) then
            bif (ltB 24 (List.length v.Text : Int)) then
             some 5
            else
             bif (ltB 2 v.Kind) then
              bif (v.N != 0) then
               some 2
              else
               bif (v.Kind != 3) then
                bif (v.Bits != 0) then
                 some 2
                else
                 bif (v.Kind != 4) then
                  bif (!(v.Text == [])) then
                   some 2
                  else
                   some 0
                 else
                  some 0
               else
                bif (v.Kind != 4) then
                 bif (!(v.Text == [])) then
                  some 2
                 else
                  some 0
                else
                 some 0
             else
              bif (v.Kind != 3) then
               bif (v.Bits != 0) then
                some 2
               else
                bif (v.Kind != 4) then
                 bif (!(v.Text == [])) then
                  some 2
                 else
                  some 0
                else
                 some 0
              else
               bif (v.Kind != 4) then
                bif (!(v.Text == [])) then
                 some 2
                else
                 some 0
               else
                some 0
           else
            bif (ltB 2 v.Kind) then
             bif (v.N != 0) then
              some 2
             else
              bif (v.Kind != 3) then
               bif (v.Bits != 0) then
                some 2
               else
                bif (v.Kind != 4) then
                 bif (!(v.Text == [])) then
                  some 2
                 else
                  some 0
                else
                 some 0
              else
               bif (v.Kind != 4) then
                bif (!(v.Text == [])) then
                 some 2
                else
                 some 0
               else
                some 0
            else
             bif (v.Kind != 3) then
              bif (v.Bits != 0) then
               some 2
              else
               bif (v.Kind != 4) then
                bif (!(v.Text == [])) then
                 some 2
                else
                 some 0
               else
                some 0
             else
              bif (v.Kind != 4) then
               bif (!(v.Text == [])) then
                some 2
               else
                some 0
              else
               some 0
       else
        bif (v.Kind == 3) then
         (s_ref03_Clean N v.Bits).bind fun clea2 =>
         bif (clea2 != v.Bits) then
          some 4
         else
          bif (v.Kind == 4) then
           bif (ltB 24 (List.length v.Text : Int)) then
            some 5
           else
            bif (ltB 2 v.Kind) then
             bif (v.N != 0) then
              some 2
             else
              bif (v.Kind != 3) then
               bif (v.Bits != 0) then
                some 2
               else
                bif (v.Kind != 4) then
                 bif (!(v.Text == [])) then
                  some 2
                 else
                  some 0
                else
                 some 0
              else
               bif (v.Kind != 4) then
                bif (!(v.Text == [])) then
                 some 2
                else
                 some 0
               else
                some 0
            else
             bif (v.Kind != 3) then
              bif (v.Bits != 0) then
               some 2
              else
               bif (v.Kind != 4) then
                bif (!(v.Text == [])) then
                 some 2
                else
                 some 0
               else
                some 0
             else
              bif (v.Kind != 4) then
               bif (!(v.Text == [])) then
                some 2
               else
                some 0
              else
               some 0
          else
           bif (ltB 2 v.Kind) then
            bif (v.N != 0) then
             some 2
            else
             bif (v.Kind != 3) then
              bif (v.Bits != 0) then
               some 2
              else
               bif (v.Kind != 4) then
                bif (!(v.Text == [])) then
                 some 2
                else
                 some 0
               else
                some 0
             else
              bif (v.Kind != 4) then
               bif (!(v.Text == [])) then
                some 2
               else
                some 0
              else
               some 0
           else
            bif (v.Kind != 3) then
             bif (v.Bits != 0) then
              some 2
             else
              bif (v.Kind != 4) then
               bif (!(v.Text == [])) then
                some 2
               else
                some 0
              else
               some 0
            else
             bif (v.Kind != 4) then
              bif (!(v.Text == [])) then
               some 2
              else
               some 0
             else
              some 0
        else
         bif (v.Kind == 4) then
          bif (ltB 24 (List.length v.Text : Int)) then
           some 5
          else
           bif (ltB 2 v.Kind) then
            bif (v.N != 0) then
             some 2
            else
             bif (v.Kind != 3) then
              bif (v.Bits != 0) then
               some 2
              else
               bif (v.Kind != 4) then
                bif (!(v.Text == [])) then
                 some 2
                else
                 some 0
               else
                some 0
             else
              bif (v.Kind != 4) then
               bif (!(v.Text == [])) then
                some 2
               else
                some 0
              else
               some 0
           else
            bif (v.Kind != 3) then
             bif (v.Bits != 0) then
              some 2
             else
              bif (v.Kind != 4) then
               bif (!(v.Text == [])) then
                some 2
               else
                some 0
              else
               some 0
            else
             bif (v.Kind != 4) then
              bif (!(v.Text == [])) then
               some 2
              else
               some 0
             else
              some 0
         else
          bif (ltB 2 v.Kind) then
           bif (v.N != 0) then
            some 2
           else
            bif (v.Kind != 3) then
             bif (v.Bits != 0) then
              some 2
             else
              bif (v.Kind != 4) then
               bif (!(v.Text == [])) then
                some 2
               else
                some 0
              else
               some 0
            else
             bif (v.Kind != 4) then
              bif (!(v.Text == [])) then
               some 2
              else
               some 0
             else
              some 0
          else
           bif (v.Kind != 3) then
            bif (v.Bits != 0) then
             some 2
            else
             bif (v.Kind != 4) then
              bif (!(v.Text == [])) then
               some 2
              else
               some 0
             else
              some 0
           else
            bif (v.Kind != 4) then
             bif (!(v.Text == [])) then
              some 2
             else
              some 0
            else
             some 0
    else
     bif (v.Kind == 2) then
      bif (ltB v.N 0) then
       some 8
      else
       bif (ltB 1 v.N) then
        some 8
       else
        bif (v.Kind == 3) then
         (s_ref03_Clean N v.Bits).bind fun clea3 =>
         bif (clea3 != v.Bits) then
          some 4
         else
          bif (v.Kind == 4) then
           bif (ltB 24 (List.length v.Text : Int)) then
            some 5
           else
            bif (ltB 2 v.Kind) then
             bif (v.N != 0) then
              some 2
             else
              bif (v.Kind != 3) then
               bif (v.Bits != 0) then
                some 2
               else
                bif (v.Kind != 4) then
                 bif (!(v.Text == [])) then
                  some 2
                 else
                  some 0
                else
                 some 0
              else
               bif (v.Kind != 4) then
                bif (!(v.Text == [])) then
                 some 2
                else
                 some 0
               else
                some 0
            else
             bif (v.Kind != 3) then
              bif (v.Bits != 0) then
               some 2
              else
               bif (v.Kind != 4) then
                bif (!(v.Text == [])) then
                 some 2
                else
                 some 0
               else
                some 0
             else
              bif (v.Kind != 4) then
               bif (!(v.Text == [])) then
                some 2
               else
                some 0
              else
               some 0
          else
           bif (ltB 2 v.Kind) then
            bif (v.N != 0) then
             some 2
            else
             bif (v.Kind != 3) then
              bif (v.Bits != 0) then
               some 2
              else
               bif (v.Kind != 4) then
                bif (!(v.Text == [])) then
                 some 2
                else
                 some 0
               else
                some 0
             else
              bif (v.Kind != 4) then
               bif (!(v.Text == [])) then
                some 2
               else
                some 0
              else
               some 0
           else
            bif (v.Kind != 3) then
             bif (v.Bits != 0) then
              some 2
             else
              bif (v.Kind != 4) then
               bif (!(v.Text == [])) then
                some 2
               else
                some 0
              else
               some 0
            else
             bif (v.Kind != 4) then
              bif (!(v.Text == [])) then
               some 2
              else
               some 0
             else
              some 0
        else
         bif (v.Kind == 4) then
          bif (ltB 24 (List.length v.Text : Int)) then
           some 5
          else
           bif (ltB 2 v.Kind) then
            bif (v.N != 0) then
             some 2
            else
             bif (v.Kind != 3) then
              bif (v.Bits != 0) then
               some 2
              else
               bif (v.Kind != 4) then
                bif (!(v.Text == [])) then
                 some 2
                else
                 some 0
               else
                some 0
             else
              bif (v.Kind != 4) then
               bif (!(v.Text == [])) then
                some 2
               else
                some 0
              else
               some 0
           else
            bif (v.Kind != 3) then
             bif (v.Bits != 0) then
              some 2
             else
              bif (v.Kind != 4) then
               bif (!(v.Text == [])) then
                some 2
               else
                some 0
              else
               some 0
            else
             bif (v.Kind != 4) then
              bif (!(v.Text == [])) then
               some 2
              else
               some 0
             else
              some 0
         else
          bif (ltB 2 v.Kind) then
           bif (v.N != 0) then
            some 2
           else
            bif (v.Kind != 3) then
             bif (v.Bits != 0) then
              some 2
             else
              bif (v.Kind != 4) then
               bif (!(v.Text == [])) then
                some 2
               else
                some 0
              else
               some 0
            else
             bif (v.Kind != 4) then
              bif (!(v.Text == [])) then
               some 2
              else
               some 0
             else
              some 0
          else
           bif (v.Kind != 3) then
            bif (v.Bits != 0) then
             some 2
            else
             bif (v.Kind != 4) then
              bif (!(v.Text == [])) then
               some 2
              else
               some 0
             else
              some 0
           else
            bif (v.Kind != 4) then
             bif (!(v.Text == [])) then
              some 2
             else
              some 0
            else
             some 0
     else
      bif (v.Kind == 3) then
       (s_ref03_Clean N v.Bits).bind fun clea4 =>
       bif (clea4 != v.Bits) then
        some 4
       else
        bif (v.Kind == 4) then
         bif (ltB 24 (List.length v.Text : Int)) then
          some 5
         else
          bif (ltB 2 v.Kind) then
           bif (v.N != 0) then
            some 2
           else
            bif (v.Kind != 3) then
             bif (v.Bits != 0) then
              some 2
             else
              bif (v.Kind != 4) then
               bif (!(v.Text == [])) then
                some 2
               else
                some 0
              else
               some 0
            else
             bif (v.Kind != 4) then
              bif (!(v.Text == [])) then
               some 2
              else
               some 0
             else
              some 0
          else
           bif (v.Kind != 3) then
            bif (v.Bits != 0) then
             some 2
            else
             bif (v.Kind != 4) then
              bif (!(v.Text == [])) then
               some 2
              else
               some 0
             else
              some 0
           else
            bif (v.Kind != 4) then
             bif (!(v.Text == [])) then
              some 2
             else
              some 0
            else
             some 0
        else
         bif (ltB 2 v.Kind) then
          bif (v.N != 0) then
           some 2
          else
           bif (v.Kind != 3) then
            bif (v.Bits != 0) then
             some 2
            else
             bif (v.Kind != 4) then
              bif (!(v.Text == [])) then
               some 2
              else
               some 0
             else
              some 0
           else
            bif (v.Kind != 4) then
             bif (!(v.Text == [])) then
              some 2
             else
              some 0
            else
             some 0
         else
          bif (v.Kind != 3) then
           bif (v.Bits != 0) then
            some 2
           else
            bif (v.Kind != 4) then
             bif (!(v.Text == [])) then
              some 2
             else
              some 0
            else
             some 0
          else
           bif (v.Kind != 4) then
            bif (!(v.Text == [])) then
             some 2
            else
             some 0
           else
            some 0
      else
       bif (v.Kind == 4) then
        bif (ltB 24 (List.length v.Text : Int)) then
         some 5
        else
         bif (ltB 2 v.Kind) then
          bif (v.N != 0) then
           some 2
          else
           bif (v.Kind != 3) then
            bif (v.Bits != 0) then
             some 2
            else
             bif (v.Kind != 4) then
              bif (!(v.Text == [])) then
               some 2
              else
               some 0
             else
              some 0
           else
            bif (v.Kind != 4) then
             bif (!(v.Text == [])) then
              some 2
             else
              some 0
            else
             some 0
         else
          bif (v.Kind != 3) then
           bif (v.Bits != 0) then
            some 2
           else
            bif (v.Kind != 4) then
             bif (!(v.Text == [])) then
              some 2
             else
              some 0
            else
             some 0
          else
           bif (v.Kind != 4) then
            bif (!(v.Text == [])) then
             some 2
            else
             some 0
           else
            some 0
       else
        bif (ltB 2 v.Kind) then
         bif (v.N != 0) then
          some 2
         else
          bif (v.Kind != 3) then
           bif (v.Bits != 0) then
            some 2
           else
            bif (v.Kind != 4) then
             bif (!(v.Text == [])) then
              some 2
             else
              some 0
            else
             some 0
          else
           bif (v.Kind != 4) then
            bif (!(v.Text == [])) then
             some 2
            else
             some 0
           else
            some 0
        else
         bif (v.Kind != 3) then
          bif (v.Bits != 0) then
           some 2
          else
           bif (v.Kind != 4) then
            bif (!(v.Text == [])) then
             some 2
            else
             some 0
           else
            some 0
         else
          bif (v.Kind != 4) then
           bif (!(v.Text == [])) then
            some 2
           else
            some 0
          else
           some 0
def s_ref11_needs_j5 (N : Nat) (n : pred_Node) (x6 : Bool) : Option Int :=
  bif x6 then
   some 2
  else
   bif (n.Kind != 8) then
    bif (!(n.Var == [])) then
     some 2
    else
     bif (n.Kind != 9) then
      bif (!((n.Val.Kind == 0) && ((n.Val.N == 0) && ((n.Val.Bits == 0) && (n.Val.Text == []))))) then
       some 2
      else
       some 0
     else
      some 0
   else
    bif (n.Kind != 9) then
     bif (!((n.Val.Kind == 0) && ((n.Val.N == 0) && ((n.Val.Bits == 0) && (n.Val.Text == []))))) then
      some 2
     else
      some 0
    else
     some 0
def s_ref11_needs_j4 (N : Nat) (n : pred_Node) (x5 : Bool) : Option Int :=
  bif x5 then
   s_ref11_needs_j5 N n true
  else
   bif (n.Kind != 7) then
    bif (n.Kind != 8) then
     s_ref11_needs_j5 N n (!(n.Name == []))
    else
     s_ref11_needs_j5 N n false
   else
    s_ref11_needs_j5 N n false
def s_ref11_needs_j3 (N : Nat) (n : pred_Node) (x4 : Bool) : Option Int :=
  bif x4 then
   some 4
  else
   bif (n.Kind != 4) then
    s_ref11_needs_j4 N n (n.Op != 0)
   else
    s_ref11_needs_j4 N n false
def s_ref11_needs_j2 (N : Nat) (n : pred_Node) (x3 : Bool) : Option Int :=
  bif x3 then
   s_ref11_needs_j3 N n true
  else
   bif (n.Kind == 9) then
    (s_ref04_Check N n.Val).bind fun chec =>
    s_ref11_needs_j3 N n (chec != 0)
   else
    s_ref11_needs_j3 N n false
def s_ref11_needs_j1 (N : Nat) (n : pred_Node) (x2 : Bool) : Option Int :=
  bif x2 then
   s_ref11_needs_j2 N n true
  else
   bif (n.Kind == 8) then
    (s_ref06_Name N n.Var).bind fun name3 =>
    s_ref11_needs_j2 N n (!name3)
   else
    s_ref11_needs_j2 N n false
def s_ref11_needs_j0 (N : Nat) (n : pred_Node) (x : Bool) : Option Int :=
  bif x then
   s_ref11_needs_j1 N n true
  else
   bif (n.Kind == 7) then
    (s_ref06_Name N n.Name).bind fun name =>
    s_ref11_needs_j1 N n (!name)
   else
    bif (n.Kind == 8) then
     (s_ref06_Name N n.Name).bind fun name2 =>
     s_ref11_needs_j1 N n (!name2)
    else
     s_ref11_needs_j1 N n false
def s_ref11_needs (N : Nat) (n : pred_Node) : Option Int :=
  bif (n.Kind == 4) then
   bif (ltB n.Op 1) then
    s_ref11_needs_j0 N n true
   else
    s_ref11_needs_j0 N n (ltB 6 n.Op)
  else
   s_ref11_needs_j0 N n false
def s_ref11_Kids (N : Nat) (kind : Int) : Option Int :=
  bif (kind == 1) then
   some 2
  else
   bif (kind == 2) then
    some 2
   else
    bif (kind == 4) then
     some 2
    else
     bif (kind == 5) then
      some 2
     else
      bif (kind == 6) then
       some 2
      else
       bif (kind == 3) then
        some 1
       else
        some 0
def s_ref11_kid (N : Nat) (kind : Int) (which : Int) : Option Int :=
  bif (leB kind 3) then
   some 1
  else
   bif (kind == 4) then
    some 2
   else
    bif (which == 0) then
     some 2
    else
     some 3
abbrev TS_ref11_tree : Type := ((List pred_Node) → Int → Int → Int → Option (Int × Int))
def s_ref11_tree_1 (N : Nat) (p : TS_ref11_tree) (l : List pred_Node) (deep : Int) (y : Int) (next0 : Int → Int → Option (Int × Int)) (vat2 : Int) (i : Int) : Option (Int × Int) :=
  (s_ref11_Kids N y).bind fun kids =>
  bif (ltB i kids) then
   (s_ref11_kid N y i).bind fun kid =>
   gd (i64b (deep + 1)) (
   (p l vat2 kid (deep + 1)).bind fun tree =>
   bif (tree.2 != 0) then
    some (tree.1, tree.2)
   else
    gd (i64b (i + 1)) (
    next0 tree.1 (i + 1)))
  else
   some (vat2, 0)
def b_ref11_tree (N : Nat) (p : TS_ref11_tree) (l : List pred_Node) (vat : Int) (vwhere : Int) (deep : Int) : Option (Int × Int) :=
  bif (leB (List.length l : Int) vat) then
   some (vat, 3)
  else
   bif (leB 16 deep) then
    some (vat, 15)
   else
    (ix l vat).bind fun e =>
    (s_ref11_may N e.Kind vwhere).bind fun may =>
    bif (!may) then
     some (vat, 11)
    else
     (s_ref11_needs N e).bind fun need =>
     bif (need != 0) then
      some (vat, need)
     else
      gd (i64b (vat + 1)) (
      lp2 (s_ref11_tree_1 N p l deep e.Kind) N (vat + 1) 0)
def SS_ref11_tree (N : Nat) : TS_ref11_tree := Nat.rec (motive := fun _ => TS_ref11_tree) (fun _ _ _ _ => none) (fun N p => (b_ref11_tree N p)) N
def s_ref11_tree (N : Nat) (l : List pred_Node) (vat : Int) (vwhere : Int) (deep : Int) : Option (Int × Int) := (SS_ref11_tree N) l vat vwhere deep
def s_ref11_Check (N : Nat) (l : List pred_Node) : Option Int :=
  bif (ltB 30 (List.length l : Int)) then
   some 5
  else
   bif ((List.length l : Int) == 0) then
    some 0
   else
    (s_ref11_tree N l 0 1 0).bind fun tree =>
    bif (tree.2 != 0) then
     some tree.2
    else
     bif (ltB tree.1 (List.length l : Int)) then
      some 5
     else
      some 0
def s_ref12_Parse (N : Nat) (l : List lex_Token) (vat : Int) (vend : Int) : Option (List pred_Node × Int × fault_Fault) :=
  bif (ltB vat 0) then
   some ([], 0, (fault_Fault.mk 2 0))
  else
   bif (ltB (List.length l : Int) vat) then
    some ([], 0, (fault_Fault.mk 2 0))
   else
    (s_ref12_or N (ref12_State.mk l vat vend (fault_Fault.mk 0 0)) 0).bind fun or =>
    bif (or.2.F.E != 0) then
     some ([], 0, or.2.F)
    else
     (s_ref11_Check N or.1).bind fun chec =>
     bif (chec != 0) then
      (s_ref12_place N (ref12_State.mk l vat vend (fault_Fault.mk 0 0))).bind fun plac =>
      some ([], 0, (fault_Fault.mk chec plac))
     else
      some (or.1, or.2.At, (fault_Fault.mk 0 0))
def s_law11_Back_1 (N : Nat) (l : List pred_Node) (next0 : Int → (List pred_Node) → Option (List pred_Node)) (i : Int) (ys : List pred_Node) : Option (List pred_Node) :=
  bif (ltB i (List.length l : Int)) then
   (ix l i).bind fun e =>
   gd (Nat.ble ((List.length ys + 1) * 80) 140737488355328) (
   gd (i64b (i + 1)) (
   next0 (i + 1) (ys ++ [e])))
  else
   some ys
def s_law11_Back (N : Nat) (l : List pred_Node) : Option (List pred_Node) :=
  lp2 (s_law11_Back_1 N l) N 0 []
def s_ref11_Same_1 (N : Nat) (va : List pred_Node) (b : List pred_Node) (next0 : Int → Option Bool) (i : Int) : Option Bool :=
  bif (ltB i (List.length va : Int)) then
   (ix va i).bind fun e =>
   (ix b i).bind fun e2 =>
   bif (!((e.Kind == e2.Kind) && ((e.Op == e2.Op) && ((e.Var == e2.Var) && ((e.Name == e2.Name) && ((e.Val.Kind == e2.Val.Kind) && ((e.Val.N == e2.Val.N) && ((e.Val.Bits == e2.Val.Bits) && (e.Val.Text == e2.Val.Text))))))))) then
    some false
   else
    gd (i64b (i + 1)) (
    next0 (i + 1))
  else
   some true
def s_ref11_Same (N : Nat) (va : List pred_Node) (b : List pred_Node) : Option Bool :=
  bif ((List.length va : Int) != (List.length b : Int)) then
   some false
  else
   lp1 (s_ref11_Same_1 N va b) N 0
def s_law09_Told_n (N : Nat) : Option fault_Fault :=
  (s_fault_Code_n N).bind fun code =>
  (s_fault_At_n N).bind fun vat =>
  some (fault_Fault.mk code vat)
def s_law09_Told_f (N : Nat) (err : Int) (err2 : Int) : Option fault_Fault :=
  (s_fault_Code_f N err err2).bind fun code =>
  (s_fault_At_f N err err2).bind fun vat =>
  some (fault_Fault.mk code vat)
def s_law04_Small (N : Nat) (v : value_Value) : Option Int :=
  gd (i64b ((List.length v.Text : Int) - 100)) (
  some (max 0 ((List.length v.Text : Int) - 100)))
def s_law10_Over_1 (N : Nat) (l : List lex_Token) (next0 : Int → Option Int) (i : Int) : Option Int :=
  bif (ltB i (List.length l : Int)) then
   (ix l i).bind fun e =>
   bif (ltB 100 (List.length e.Text : Int)) then
    some 1
   else
    (ix l i).bind fun e2 =>
    (s_law04_Small N e2.Val).bind fun smal =>
    bif (ltB 0 smal) then
     some 1
    else
     gd (i64b (i + 1)) (
     next0 (i + 1))
  else
   some 0
def s_law10_Over (N : Nat) (l : List lex_Token) (most : Int) : Option Int :=
  bif (ltB most (List.length l : Int)) then
   some 1
  else
   lp1 (s_law10_Over_1 N l) N 0
def s_law10_Own_1 (N : Nat) (l : List lex_Token) (next0 : Int → (List lex_Token) → Option (List lex_Token)) (i : Int) (ys : List lex_Token) : Option (List lex_Token) :=
  bif (ltB i (List.length l : Int)) then
   (ix l i).bind fun e =>
   (ix l i).bind fun e2 =>
   (ix l i).bind fun e3 =>
   (ix l i).bind fun e4 =>
   gd (Nat.ble ((List.length ys + 1) * 72) 140737488355328) (
   gd (i64b (i + 1)) (
   next0 (i + 1) (ys ++ [(lex_Token.mk e.Kind e2.At e3.Text e4.Val)])))
  else
   some ys
def s_law10_Own (N : Nat) (l : List lex_Token) : Option (List lex_Token) :=
  lp2 (s_law10_Own_1 N l) N 0 []
def s_law12_PredtextParses (N : Nat) (l : List lex_Token) (vat : Int) (vend : Int) : Option Bool :=
  (s_law10_Over N l 60).bind fun over =>
  bif (ltB 0 over) then
   (s_law12_awake N).bind fun awak =>
   some awak
  else
   (s_law10_Own N l).bind fun own =>
   (s_predtext_Parse N own vat vend).bind fun x => Sum.elim
   (fun pars =>
    (s_ref12_Parse N l vat vend).bind fun pars2 =>
    (s_law11_Back N pars.1).bind fun back =>
    (s_ref11_Same N back pars2.1).bind fun same =>
    bif same then
     bif (pars.2 == pars2.2.1) then
      (s_law09_Told_n N).bind fun told =>
      bif ((told.E == pars2.2.2.E) && (told.At == pars2.2.2.At)) then
       bif (true == (pars2.2.2.E == 0)) then
        (s_law12_awake N).bind fun awak2 =>
        some awak2
       else
        some false
      else
       some false
     else
      some false
    else
     some false)
   (fun pars3 =>
    (s_ref12_Parse N l vat vend).bind fun pars4 =>
    (s_law11_Back N pars3.1).bind fun back2 =>
    (s_ref11_Same N back2 pars4.1).bind fun same2 =>
    bif same2 then
     bif (pars3.2.1 == pars4.2.1) then
      (s_law09_Told_f N pars3.2.2.1 pars3.2.2.2).bind fun told2 =>
      bif ((told2.E == pars4.2.2.E) && (told2.At == pars4.2.2.At)) then
       bif (false == (pars4.2.2.E == 0)) then
        (s_law12_awake N).bind fun awak3 =>
        some awak3
       else
        some false
      else
       some false
     else
      some false
    else
     some false) x
def s_law11_Over_1 (N : Nat) (l : List pred_Node) (next0 : Int → Option Int) (i : Int) : Option Int :=
  bif (ltB i (List.length l : Int)) then
   (ix l i).bind fun e =>
   bif (ltB 40 (List.length e.Var : Int)) then
    some 1
   else
    (ix l i).bind fun e2 =>
    bif (ltB 40 (List.length e2.Name : Int)) then
     some 1
    else
     (ix l i).bind fun e3 =>
     (s_law04_Small N e3.Val).bind fun smal =>
     bif (ltB 0 smal) then
      some 1
     else
      gd (i64b (i + 1)) (
      next0 (i + 1))
  else
   some 0
def s_law11_Over (N : Nat) (l : List pred_Node) : Option Int :=
  bif (ltB 40 (List.length l : Int)) then
   some 1
  else
   lp1 (s_law11_Over_1 N l) N 0
def s_slices_Equal_pred_Node_1 (N : Nat) (s1 : List pred_Node) (s2 : List pred_Node) (x : Int) (next0 : Int → Option Bool) (x2 : Int) : Option Bool :=
  bif (ltB x2 x) then
   (ix s1 x2).bind fun e =>
   (ix s2 x2).bind fun e2 =>
   bif (!((e.Kind == e2.Kind) && ((e.Op == e2.Op) && ((e.Var == e2.Var) && ((e.Name == e2.Name) && ((e.Val.Kind == e2.Val.Kind) && ((e.Val.N == e2.Val.N) && ((e.Val.Bits == e2.Val.Bits) && (e.Val.Text == e2.Val.Text))))))))) then
    some false
   else
    gd (i64b (x2 + 1)) (
    next0 (x2 + 1))
  else
   some true
def s_slices_Equal_pred_Node (N : Nat) (s1 : List pred_Node) (s2 : List pred_Node) : Option Bool :=
  bif ((List.length s1 : Int) != (List.length s2 : Int)) then
   some false
  else
   lp1 (s_slices_Equal_pred_Node_1 N s1 s2 (List.length s1 : Int)) N 0
def s_pred_Same (N : Nat) (va : List pred_Node) (b : List pred_Node) : Option Bool :=
  (s_slices_Equal_pred_Node N va b).bind fun node =>
  some node
def s_law11_Own_1 (N : Nat) (l : List pred_Node) (next0 : Int → (List pred_Node) → Option (List pred_Node)) (i : Int) (ys : List pred_Node) : Option (List pred_Node) :=
  bif (ltB i (List.length l : Int)) then
   (ix l i).bind fun e =>
   gd (Nat.ble ((List.length ys + 1) * 80) 140737488355328) (
   gd (i64b (i + 1)) (
   next0 (i + 1) (ys ++ [e])))
  else
   some ys
def s_law11_Own (N : Nat) (l : List pred_Node) : Option (List pred_Node) :=
  lp2 (s_law11_Own_1 N l) N 0 []
def s_law12_PredtextBack (N : Nat) (l : List pred_Node) (s : List UInt8) : Option Bool :=
  (s_law11_Over N l).bind fun over =>
  bif (ltB 0 over) then
   (s_law12_awake N).bind fun awak =>
   some awak
  else
   bif (ltB 700 (List.length s : Int)) then
    (s_law12_awake N).bind fun awak2 =>
    some awak2
   else
    (s_predtext_Read N s).bind fun x => Sum.elim
    (fun read =>
     (s_pred_Check N read).bind fun chec =>
     bif (chec != 0) then
      some false
     else
      (s_pred_Print N read).bind fun prin =>
      (s_predtext_Read N prin).bind fun x => Sum.elim
      (fun read2 =>
       bif (leB (List.length prin : Int) 600) then
        (s_pred_Same N read read2).bind fun same =>
        bif (!same) then
         some false
        else
         (s_law11_Own N l).bind fun own =>
         (s_pred_Print N own).bind fun prin2 =>
         (s_pred_Check N own).bind fun chec2 =>
         bif (chec2 != 0) then
          (s_law12_awake N).bind fun awak3 =>
          some awak3
         else
          bif (ltB 600 (List.length prin2 : Int)) then
           (s_law12_awake N).bind fun awak4 =>
           some awak4
          else
           (s_predtext_Read N prin2).bind fun x => Sum.elim
           (fun read3 =>
            (s_pred_Same N read3 own).bind fun same2 =>
            bif same2 then
             (s_law12_awake N).bind fun awak5 =>
             some awak5
            else
             some false)
           (fun read4 =>
            some false) x
       else
        (s_law11_Own N l).bind fun own2 =>
        (s_pred_Print N own2).bind fun prin3 =>
        (s_pred_Check N own2).bind fun chec3 =>
        bif (chec3 != 0) then
         (s_law12_awake N).bind fun awak6 =>
         some awak6
        else
         bif (ltB 600 (List.length prin3 : Int)) then
          (s_law12_awake N).bind fun awak7 =>
          some awak7
         else
          (s_predtext_Read N prin3).bind fun x => Sum.elim
          (fun read5 =>
           (s_pred_Same N read5 own2).bind fun same3 =>
           bif same3 then
            (s_law12_awake N).bind fun awak8 =>
            some awak8
           else
            some false)
          (fun read6 =>
           some false) x)
      (fun read7 =>
       bif (leB (List.length prin : Int) 600) then
        some false
       else
        (s_law11_Own N l).bind fun own3 =>
        (s_pred_Print N own3).bind fun prin4 =>
        (s_pred_Check N own3).bind fun chec4 =>
        bif (chec4 != 0) then
         (s_law12_awake N).bind fun awak9 =>
         some awak9
        else
         bif (ltB 600 (List.length prin4 : Int)) then
          (s_law12_awake N).bind fun awak10 =>
          some awak10
         else
          (s_predtext_Read N prin4).bind fun x => Sum.elim
          (fun read8 =>
           (s_pred_Same N read8 own3).bind fun same4 =>
           bif same4 then
            (s_law12_awake N).bind fun awak11 =>
            some awak11
           else
            some false)
          (fun read9 =>
           some false) x) x)
    (fun read10 =>
     bif ((List.length read10.1 : Int) != 0) then
      some false
     else
      (s_fault_At_f N read10.2.1 read10.2.2).bind fun vat =>
      bif (ltB vat 0) then
       some false
      else
       (s_fault_At_f N read10.2.1 read10.2.2).bind fun vat2 =>
       bif (ltB (List.length s : Int) vat2) then
        some false
       else
        (s_pred_Check N read10.1).bind fun chec5 =>
        bif (chec5 != 0) then
         some false
        else
         (s_pred_Print N read10.1).bind fun prin5 =>
         (s_predtext_Read N prin5).bind fun x => Sum.elim
         (fun read11 =>
          bif (leB (List.length prin5 : Int) 600) then
           (s_pred_Same N read10.1 read11).bind fun same5 =>
           bif (!same5) then
            some false
           else
            (s_law11_Own N l).bind fun own4 =>
            (s_pred_Print N own4).bind fun prin6 =>
            (s_pred_Check N own4).bind fun chec6 =>
            bif (chec6 != 0) then
             (s_law12_awake N).bind fun awak12 =>
             some awak12
            else
             bif (ltB 600 (List.length prin6 : Int)) then
              (s_law12_awake N).bind fun awak13 =>
              some awak13
             else
              (s_predtext_Read N prin6).bind fun x => Sum.elim
              (fun read12 =>
               (s_pred_Same N read12 own4).bind fun same6 =>
               bif same6 then
                (s_law12_awake N).bind fun awak14 =>
                some awak14
               else
                some false)
              (fun read13 =>
               some false) x
          else
           (s_law11_Own N l).bind fun own5 =>
           (s_pred_Print N own5).bind fun prin7 =>
           (s_pred_Check N own5).bind fun chec7 =>
           bif (chec7 != 0) then
            (s_law12_awake N).bind fun awak15 =>
            some awak15
           else
            bif (ltB 600 (List.length prin7 : Int)) then
             (s_law12_awake N).bind fun awak16 =>
             some awak16
            else
             (s_predtext_Read N prin7).bind fun x => Sum.elim
             (fun read14 =>
              (s_pred_Same N read14 own5).bind fun same7 =>
              bif same7 then
               (s_law12_awake N).bind fun awak17 =>
               some awak17
              else
               some false)
             (fun read15 =>
              some false) x)
         (fun read16 =>
          bif (leB (List.length prin5 : Int) 600) then
           some false
          else
           (s_law11_Own N l).bind fun own6 =>
           (s_pred_Print N own6).bind fun prin8 =>
           (s_pred_Check N own6).bind fun chec8 =>
           bif (chec8 != 0) then
            (s_law12_awake N).bind fun awak18 =>
            some awak18
           else
            bif (ltB 600 (List.length prin8 : Int)) then
             (s_law12_awake N).bind fun awak19 =>
             some awak19
            else
             (s_predtext_Read N prin8).bind fun x => Sum.elim
             (fun read17 =>
              (s_pred_Same N read17 own6).bind fun same8 =>
              bif same8 then
               (s_law12_awake N).bind fun awak20 =>
               some awak20
              else
               some false)
             (fun read18 =>
              some false) x) x) x
def s_law12_PredtextBrackets_1 (N : Nat) (n : Int) (read : List pred_Node) (next0 : (List UInt8) → Int → Option Bool) (t : List UInt8) (i : Int) : Option Bool :=
  bif (ltB i (IntKind.i64.wrap (Int.tmod n 9))) then
   gd (Nat.ble (1 + (List.length t)) 9223372036854775807) (
   gd (Nat.ble ((List.length t + 1) + 2) 9223372036854775807) (
   gd (i64b (i + 1)) (
   next0 (40 :: (t ++ [10, 41])) (i + 1))))
  else
   (s_predtext_Read N t).bind fun x => Sum.elim
   (fun read2 =>
    (s_pred_Same N read read2).bind fun same =>
    bif same then
     (s_law12_awake N).bind fun awak3 =>
     some awak3
    else
     some false)
   (fun read3 =>
    (s_fault_Code_f N read3.2.1 read3.2.2).bind fun code =>
    bif (code == 15) then
     bif ((List.length read3.1 : Int) == 0) then
      (s_law12_awake N).bind fun awak4 =>
      some awak4
     else
      some false
    else
     (s_fault_Code_f N read3.2.1 read3.2.2).bind fun code2 =>
     bif (code2 == 7) then
      bif ((List.length read3.1 : Int) == 0) then
       (s_law12_awake N).bind fun awak5 =>
       some awak5
      else
       some false
     else
      some false) x
def s_law12_PredtextBrackets (N : Nat) (s : List UInt8) (n : Int) : Option Bool :=
  bif (ltB 500 (List.length s : Int)) then
   (s_law12_awake N).bind fun awak =>
   some awak
  else
   (s_predtext_Read N s).bind fun x => Sum.elim
   (fun read =>
    bif ((List.length read : Int) == 0) then
     (s_law12_awake N).bind fun awak2 =>
     some awak2
    else
     lp2 (s_law12_PredtextBrackets_1 N n read) N s 0)
   (fun read4 =>
    (s_law12_awake N).bind fun awak6 =>
    some awak6) x
end
end
end Go.Proofs.YtfmibkkigkgecaaGreatDoor.V
