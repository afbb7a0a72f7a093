/- The code, and what each function of it is walked to. No premise beyond what each theorem says. -/
import Derived.Test.YtahklhniofiofaaGreatDoorDA3
import Derived.Test.YtahklhniofiofaaGreatDoorProg
set_option linter.all false
set_option linter.unusedSimpArgs false
set_option linter.unusedVariables false
namespace Go.Proofs.YtahklhniofiofaaGreatDoor.D
open Go
section
open Go.Proofs.Tryz
set_option maxRecDepth 1000000
noncomputable section
structure value_Value where
  Kind : Int
  N : Int
  Bits : Int
  Text : List UInt8
structure lex_Token where
  Kind : Int
  At : Int
  Text : List UInt8
  Val : value_Value
structure pred_Node where
  Kind : Int
  Op : Int
  Var : List UInt8
  Name : List UInt8
  Val : value_Value
structure shape_Node where
  Kind : Int
  Kids : Int
  Lo : Int
  Hi : Int
  Var : List UInt8
  Type_ : List UInt8
  Test : List pred_Node
structure shape_Pattern where
  Body : List shape_Node
  Within : Int
  By : List UInt8
  Mode : Int
structure fault_Fault where
  E : Int
  At : Int
structure ref12_State where
  L : List lex_Token
  At : Int
  End : Int
  F : fault_Fault
def s_fault_New (N : Nat) (e p : Int) : Option (Unit ⊕ (Int × Int)) := bif e == 0 then some (.inl ()) else some (.inr (e, p))
def s_lex_small (N : Nat) (c : Int) : Option Bool :=
  bif (leB 97 c) then
   some (leB c 122)
  else
   some false
def s_lex_scanner_fail_v359 (N : Nat) (e : Int) (y : List UInt8) (y2 : Int) (xs : List lex_Token) : Option ((List UInt8 × Int × List lex_Token) ⊕ (Int × Int × List UInt8 × Int × List lex_Token)) :=
  (s_fault_New N e y2).bind fun x => Sum.elim
  (fun new =>
   some (Sum.inl (y, y2, xs)))
  (fun new2 =>
   some (Sum.inr (new2.1, new2.2, y, y2, xs))) x
def s_lex_digit (N : Nat) (c : Int) : Option Bool :=
  bif (leB 48 c) then
   some (leB c 57)
  else
   some false
def s_lex_tail (N : Nat) (c : Int) : Option Bool :=
  (s_lex_small N c).bind fun smal =>
  bif smal then
   some true
  else
   (s_lex_digit N c).bind fun digi =>
   bif digi then
    some true
   else
    some (c == 95)
def s_lex_scanner_length_v869_1 (N : Nat) (y : List UInt8) (y2 : Int) (xs : List lex_Token) (next0 : Int → Option (Int × List UInt8 × Int × List lex_Token)) (n : Int) : Option (Int × List UInt8 × Int × List lex_Token) :=
  gd (i64b (y2 + n)) (
  bif (ltB (y2 + n) (List.length y : Int)) then
   gd (i64b (y2 + n)) (
   (ix y (y2 + n)).bind fun c =>
   (s_lex_tail N (UInt8.toNat c : Int)).bind fun tail =>
   bif tail then
    gd (i64b (n + 1)) (
    next0 (n + 1))
   else
    some (n, y, y2, xs))
  else
   some (n, y, y2, xs))
def s_lex_scanner_length_v869 (N : Nat) (y : List UInt8) (y2 : Int) (xs : List lex_Token) : Option (Int × List UInt8 × Int × List lex_Token) :=
  lp1 (s_lex_scanner_length_v869_1 N y y2 xs) N 0
def s_value_OfFlag (N : Nat) (is : Bool) : Option value_Value :=
  bif is then
   some (value_Value.mk 2 1 0 [])
  else
   some (value_Value.mk 2 0 0 [])
def s_lex_scanner_put_v420 (N : Nat) (n : Int) (kind : Int) (text : List UInt8) (v : value_Value) (y : List UInt8) (y2 : Int) (xs : List lex_Token) : Option (List UInt8 × Int × List lex_Token) :=
  gd (Nat.ble ((List.length xs + 1) * 72) 140737488355328) (
  gd (i64b (y2 + n)) (
  some (y, (y2 + n), (xs ++ [(lex_Token.mk kind y2 text v)]))))
def s_schema_Reserved (N : Nat) (s : List UInt8) : Option Bool :=
  bif (s == [119, 105, 116, 104, 105, 110]) then
   bif (s == [119, 105, 116, 104, 105, 110]) then
    some true
   else
    some false
  else
   bif (s == [98, 121]) then
    bif (s == [98, 121]) then
     some true
    else
     some false
   else
    bif (s == [97, 110, 100]) then
     bif (s == [97, 110, 100]) then
      some true
     else
      some false
    else
     bif (s == [111, 114]) then
      bif (s == [111, 114]) then
       some true
      else
       some false
     else
      bif (s == [110, 111, 116]) then
       bif (s == [110, 111, 116]) then
        some true
       else
        some false
      else
       bif (s == [97, 110, 121]) then
        bif (s == [97, 110, 121]) then
         some true
        else
         some false
       else
        bif (s == [110, 101, 120, 116]) then
         bif (s == [110, 101, 120, 116]) then
          some true
         else
          some false
        else
         bif (s == [115, 116, 114, 105, 99, 116]) then
          bif (s == [115, 116, 114, 105, 99, 116]) then
           some true
          else
           some false
         else
          bif (s == [116, 114, 117, 101]) then
           bif (s == [116, 114, 117, 101]) then
            some true
           else
            some false
          else
           bif (s == [102, 97, 108, 115, 101]) then
            some true
           else
            some false
def s_lex_scanner_word_v558 (N : Nat) (y : List UInt8) (y2 : Int) (xs : List lex_Token) : Option ((List UInt8 × Int × List lex_Token) ⊕ (List UInt8 × Int × List lex_Token) ⊕ (Int × Int × List UInt8 × Int × List lex_Token)) :=
  (s_lex_scanner_length_v869 N y y2 xs).bind fun leng =>
  gd (i64b (leng.2.2.1 + leng.1)) (
  gd (leB 0 leng.2.2.1) (
  gd (leB leng.2.2.1 (leng.2.2.1 + leng.1)) (
  gd (leB (leng.2.2.1 + leng.1) (List.length leng.2.1 : Int)) (
  bif ((List.drop (Int.toNat leng.2.2.1) (List.take (Int.toNat (leng.2.2.1 + leng.1)) leng.2.1)) == [116, 114, 117, 101]) then
   (s_value_OfFlag N ((List.drop (Int.toNat leng.2.2.1) (List.take (Int.toNat (leng.2.2.1 + leng.1)) leng.2.1)) == [116, 114, 117, 101])).bind fun offl =>
   (s_lex_scanner_put_v420 N leng.1 3 [] offl leng.2.1 leng.2.2.1 leng.2.2.2).bind fun put =>
   some (Sum.inl (put.1, put.2.1, put.2.2))
  else
   bif ((List.drop (Int.toNat leng.2.2.1) (List.take (Int.toNat (leng.2.2.1 + leng.1)) leng.2.1)) == [102, 97, 108, 115, 101]) then
    (s_value_OfFlag N ((List.drop (Int.toNat leng.2.2.1) (List.take (Int.toNat (leng.2.2.1 + leng.1)) leng.2.1)) == [116, 114, 117, 101])).bind fun offl2 =>
    (s_lex_scanner_put_v420 N leng.1 3 [] offl2 leng.2.1 leng.2.2.1 leng.2.2.2).bind fun put2 =>
    some (Sum.inl (put2.1, put2.2.1, put2.2.2))
   else
    (s_schema_Reserved N (List.drop (Int.toNat leng.2.2.1) (List.take (Int.toNat (leng.2.2.1 + leng.1)) leng.2.1))).bind fun rese =>
    bif rese then
     (s_lex_scanner_put_v420 N leng.1 2 (List.drop (Int.toNat leng.2.2.1) (List.take (Int.toNat (leng.2.2.1 + leng.1)) leng.2.1)) (value_Value.mk 0 0 0 []) leng.2.1 leng.2.2.1 leng.2.2.2).bind fun put3 =>
     some (Sum.inl (put3.1, put3.2.1, put3.2.2))
    else
     bif (ltB 12 leng.1) then
      (s_lex_scanner_fail_v359 N 5 leng.2.1 leng.2.2.1 leng.2.2.2).bind fun x => Sum.elim
      (fun fail =>
       some (Sum.inr (Sum.inl (fail.1, fail.2.1, fail.2.2))))
      (fun fail2 =>
       some (Sum.inr (Sum.inr (fail2.1, fail2.2.1, fail2.2.2.1, fail2.2.2.2.1, fail2.2.2.2.2)))) x
     else
      (s_lex_scanner_put_v420 N leng.1 1 (List.drop (Int.toNat leng.2.2.1) (List.take (Int.toNat (leng.2.2.1 + leng.1)) leng.2.1)) (value_Value.mk 0 0 0 []) leng.2.1 leng.2.2.1 leng.2.2.2).bind fun put4 =>
      some (Sum.inl (put4.1, put4.2.1, put4.2.2))))))
def s_lex_scanner_length_v416_1 (N : Nat) (y : List UInt8) (y2 : Int) (xs : List lex_Token) (next0 : Int → Option (Int × List UInt8 × Int × List lex_Token)) (n : Int) : Option (Int × List UInt8 × Int × List lex_Token) :=
  gd (i64b (y2 + n)) (
  bif (ltB (y2 + n) (List.length y : Int)) then
   gd (i64b (y2 + n)) (
   (ix y (y2 + n)).bind fun c =>
   (s_lex_digit N (UInt8.toNat c : Int)).bind fun digi =>
   bif digi then
    gd (i64b (n + 1)) (
    next0 (n + 1))
   else
    some (n, y, y2, xs))
  else
   some (n, y, y2, xs))
def s_lex_scanner_length_v416 (N : Nat) (y : List UInt8) (y2 : Int) (xs : List lex_Token) : Option (Int × List UInt8 × Int × List lex_Token) :=
  lp1 (s_lex_scanner_length_v416_1 N y y2 xs) N 0
def s_value_OfInt (N : Nat) (n : Int) : Option value_Value :=
  some (value_Value.mk 1 (max (-4611686018427387904) (min n 4611686018427387904)) 0 [])
def s_lex_scanner_number_v558_1 (N : Nat) (n : Int) (x : Int) (y3 : List UInt8) (y4 : Int) (ys : List lex_Token) (next0 : Int → Int → Option ((List UInt8 × Int × List lex_Token) ⊕ (Int × Int × List UInt8 × Int × List lex_Token) ⊕ (List UInt8 × Int × List lex_Token))) (v : Int) (x2 : Int) : Option ((List UInt8 × Int × List lex_Token) ⊕ (Int × Int × List UInt8 × Int × List lex_Token) ⊕ (List UInt8 × Int × List lex_Token)) :=
  bif (ltB x2 x) then
   gd (i64b (y4 + x2)) (
   (ix y3 (y4 + x2)).bind fun c2 =>
   gd (i64b (4611686018427387904 - (IntKind.i64.wrap (IntKind.u8.wrap ((UInt8.toNat c2 : Int) - 48))))) (
   bif (ltB (IntKind.i64.wrap (Int.tdiv (4611686018427387904 - (IntKind.i64.wrap (IntKind.u8.wrap ((UInt8.toNat c2 : Int) - 48)))) 10)) v) then
    (s_lex_scanner_fail_v359 N 8 y3 y4 ys).bind fun x => Sum.elim
    (fun fail3 =>
     some (Sum.inl (fail3.1, fail3.2.1, fail3.2.2)))
    (fun fail4 =>
     some (Sum.inr (Sum.inl (fail4.1, fail4.2.1, fail4.2.2.1, fail4.2.2.2.1, fail4.2.2.2.2)))) x
   else
    gd (i64b (v * 10)) (
    gd (i64b ((v * 10) + (IntKind.i64.wrap (IntKind.u8.wrap ((UInt8.toNat c2 : Int) - 48))))) (
    gd (i64b (x2 + 1)) (
    next0 ((v * 10) + (IntKind.i64.wrap (IntKind.u8.wrap ((UInt8.toNat c2 : Int) - 48)))) (x2 + 1))))))
  else
   (s_value_OfInt N v).bind fun ofin =>
   (s_lex_scanner_put_v420 N n 3 [] ofin y3 y4 ys).bind fun put =>
   some (Sum.inr (Sum.inr (put.1, put.2.1, put.2.2)))
def s_lex_scanner_number_v558 (N : Nat) (y : List UInt8) (y2 : Int) (xs : List lex_Token) : Option ((List UInt8 × Int × List lex_Token) ⊕ (Int × Int × List UInt8 × Int × List lex_Token) ⊕ (List UInt8 × Int × List lex_Token)) :=
  (s_lex_scanner_length_v416 N y y2 xs).bind fun leng =>
  bif (ltB 1 leng.1) then
   (ix leng.2.1 leng.2.2.1).bind fun c =>
   bif ((UInt8.toNat c : Int) == 48) then
    (s_lex_scanner_fail_v359 N 4 leng.2.1 leng.2.2.1 leng.2.2.2).bind fun x => Sum.elim
    (fun fail =>
     some (Sum.inl (fail.1, fail.2.1, fail.2.2)))
    (fun fail2 =>
     some (Sum.inr (Sum.inl (fail2.1, fail2.2.1, fail2.2.2.1, fail2.2.2.2.1, fail2.2.2.2.2)))) x
   else
    lp2 (s_lex_scanner_number_v558_1 N leng.1 leng.1 leng.2.1 leng.2.2.1 leng.2.2.2) N 0 0
  else
   lp2 (s_lex_scanner_number_v558_1 N leng.1 leng.1 leng.2.1 leng.2.2.1 leng.2.2.2) N 0 0
def s_stringslite_IndexByte (N : Nat) (s : List UInt8) (c : Int) : Option Int :=
  some (Lib.indexByte s (UInt8.ofNat (Int.toNat c)))
def s_strings_IndexByte (N : Nat) (s : List UInt8) (c : Int) : Option Int :=
  (s_stringslite_IndexByte N s c).bind fun inde =>
  some inde
def s_lex_base16 (N : Nat) (c : Int) : Option Int :=
  (s_strings_IndexByte N [48, 49, 50, 51, 52, 53, 54, 55, 56, 57, 97, 98, 99, 100, 101, 102] c).bind fun inde =>
  some inde
def s_real_of (N : Nat) (u : Int) : Option Nat :=
  some (Int.toNat u)
def s_real_Clean (N : Nat) (u : Int) : Option Int :=
  (s_real_of N u).bind fun of =>
  bif (fcmpB .neq .f64 of of) then
   some 9221120237041090560
  else
   some u
def s_value_OfReal (N : Nat) (bits : Int) : Option value_Value :=
  (s_real_Clean N bits).bind fun clea =>
  some (value_Value.mk 3 0 clea [])
def s_lex_scanner_double_v558_1 (N : Nat) (y : List UInt8) (y2 : Int) (xs : List lex_Token) (next0 : Int → Int → Option ((List UInt8 × Int × List lex_Token) ⊕ (Int × Int × List UInt8 × Int × List lex_Token) ⊕ (List UInt8 × Int × List lex_Token))) (u : Int) (x : Int) : Option ((List UInt8 × Int × List lex_Token) ⊕ (Int × Int × List UInt8 × Int × List lex_Token) ⊕ (List UInt8 × Int × List lex_Token)) :=
  bif (ltB x 16) then
   gd (i64b (y2 + 1)) (
   gd (i64b ((y2 + 1) + x)) (
   (ix y ((y2 + 1) + x)).bind fun c =>
   (s_lex_base16 N (UInt8.toNat c : Int)).bind fun base =>
   bif (ltB base 0) then
    (s_lex_scanner_fail_v359 N 4 y y2 xs).bind fun x => Sum.elim
    (fun fail3 =>
     some (Sum.inl (fail3.1, fail3.2.1, fail3.2.2)))
    (fun fail4 =>
     some (Sum.inr (Sum.inl (fail4.1, fail4.2.1, fail4.2.2.1, fail4.2.2.2.1, fail4.2.2.2.2)))) x
   else
    gd (i64b (x + 1)) (
    next0 (bwO .u64 (IntKind.u64.wrap (u * 2 ^ 4)) (IntKind.u64.wrap base)) (x + 1))))
  else
   (s_real_Clean N u).bind fun clea =>
   bif (clea != u) then
    (s_lex_scanner_fail_v359 N 4 y y2 xs).bind fun x => Sum.elim
    (fun fail5 =>
     some (Sum.inl (fail5.1, fail5.2.1, fail5.2.2)))
    (fun fail6 =>
     some (Sum.inr (Sum.inl (fail6.1, fail6.2.1, fail6.2.2.1, fail6.2.2.2.1, fail6.2.2.2.2)))) x
   else
    (s_value_OfReal N u).bind fun ofre =>
    (s_lex_scanner_put_v420 N 17 3 [] ofre y y2 xs).bind fun put =>
    some (Sum.inr (Sum.inr (put.1, put.2.1, put.2.2)))
def s_lex_scanner_double_v558 (N : Nat) (y : List UInt8) (y2 : Int) (xs : List lex_Token) : Option ((List UInt8 × Int × List lex_Token) ⊕ (Int × Int × List UInt8 × Int × List lex_Token) ⊕ (List UInt8 × Int × List lex_Token)) :=
  gd (i64b ((List.length y : Int) - y2)) (
  bif (leB ((List.length y : Int) - y2) 16) then
   (s_lex_scanner_fail_v359 N 4 y y2 xs).bind fun x => Sum.elim
   (fun fail =>
    some (Sum.inl (fail.1, fail.2.1, fail.2.2)))
   (fun fail2 =>
    some (Sum.inr (Sum.inl (fail2.1, fail2.2.1, fail2.2.2.1, fail2.2.2.2.1, fail2.2.2.2.2)))) x
  else
   lp2 (s_lex_scanner_double_v558_1 N y y2 xs) N 0 0)
def s_lex_scanner_escaped_v359 (N : Nat) (vat : Int) (y : List UInt8) (y2 : Int) (xs : List lex_Token) : Option (Int × Bool × List UInt8 × Int × List lex_Token) :=
  gd (i64b ((List.length y : Int) - vat)) (
  bif (ltB ((List.length y : Int) - vat) 2) then
   some (0, false, y, y2, xs)
  else
   (ix y vat).bind fun c =>
   (s_lex_base16 N (UInt8.toNat c : Int)).bind fun base =>
   gd (i64b (vat + 1)) (
   (ix y (vat + 1)).bind fun c2 =>
   (s_lex_base16 N (UInt8.toNat c2 : Int)).bind fun base2 =>
   bif (leB 0 base) then
    some ((IntKind.u8.wrap (bwO .i64 (IntKind.i64.wrap (base * 2 ^ 4)) (bwA .i64 base2 15))), (leB 0 base2), y, y2, xs)
   else
    some ((IntKind.u8.wrap (bwO .i64 (IntKind.i64.wrap (base * 2 ^ 4)) (bwA .i64 base2 15))), false, y, y2, xs)))
def s_value_OfText (N : Nat) (s : List UInt8) : Option value_Value :=
  bif (ltB 24 (List.length s : Int)) then
   gd (leB 24 (List.length s : Int)) (
   some (value_Value.mk 4 0 0 (List.take 24 s)))
  else
   some (value_Value.mk 4 0 0 s)
def s_lex_scanner_quoted_v558_1 (N : Nat) (next0 : Int → (List UInt8) → Int → (List lex_Token) → (List Int) → Option ((List UInt8 × Int × List lex_Token) ⊕ (Int × Int × List UInt8 × Int × List lex_Token) ⊕ (List UInt8 × Int × List lex_Token))) (i : Int) (y3 : List UInt8) (y4 : Int) (ys : List lex_Token) (ys2 : List Int) : Option ((List UInt8 × Int × List lex_Token) ⊕ (Int × Int × List UInt8 × Int × List lex_Token) ⊕ (List UInt8 × Int × List lex_Token)) :=
  bif (ltB i (List.length y3 : Int)) then
   (ix y3 i).bind fun c =>
   bif (ltB (UInt8.toNat c : Int) 32) then
    (s_fault_New N 10 i).bind fun x => Sum.elim
    (fun new =>
     some (Sum.inl (y3, y4, ys)))
    (fun new2 =>
     some (Sum.inr (Sum.inl (new2.1, new2.2, y3, y4, ys)))) x
   else
    bif (ltB 126 (UInt8.toNat c : Int)) then
     (s_fault_New N 10 i).bind fun x => Sum.elim
     (fun new3 =>
      some (Sum.inl (y3, y4, ys)))
     (fun new4 =>
      some (Sum.inr (Sum.inl (new4.1, new4.2, y3, y4, ys)))) x
    else
     bif ((UInt8.toNat c : Int) == 92) then
      gd (i64b (i + 1)) (
      (s_lex_scanner_escaped_v359 N (i + 1) y3 y4 ys).bind fun esca =>
      bif (!esca.2.1) then
       (s_fault_New N 4 i).bind fun x => Sum.elim
       (fun new5 =>
        some (Sum.inl (esca.2.2.1, esca.2.2.2.1, esca.2.2.2.2)))
       (fun new6 =>
        some (Sum.inr (Sum.inl (new6.1, new6.2, esca.2.2.1, esca.2.2.2.1, esca.2.2.2.2)))) x
      else
       gd (Nat.ble ((List.length ys2 + 1) * 1) 140737488355328) (
       gd (i64b (i + 3)) (
       next0 (i + 3) esca.2.2.1 esca.2.2.2.1 esca.2.2.2.2 (ys2 ++ [esca.1]))))
     else
      bif ((UInt8.toNat c : Int) != 39) then
       gd (Nat.ble ((List.length ys2 + 1) * 1) 140737488355328) (
       gd (i64b (i + 1)) (
       next0 (i + 1) y3 y4 ys (ys2 ++ [(UInt8.toNat c : Int)])))
      else
       gd (i64b (i + 1)) (
       bif (ltB (i + 1) (List.length y3 : Int)) then
        gd (i64b (i + 1)) (
        (ix y3 (i + 1)).bind fun c2 =>
        bif ((UInt8.toNat c2 : Int) == 39) then
         gd (Nat.ble ((List.length ys2 + 1) * 1) 140737488355328) (
         gd (i64b (i + 2)) (
         next0 (i + 2) y3 y4 ys (ys2 ++ [(UInt8.toNat c : Int)])))
        else
         bif (ltB 24 (List.length ys2 : Int)) then
          (s_lex_scanner_fail_v359 N 5 y3 y4 ys).bind fun x => Sum.elim
          (fun fail =>
           some (Sum.inl (fail.1, fail.2.1, fail.2.2)))
          (fun fail2 =>
           some (Sum.inr (Sum.inl (fail2.1, fail2.2.1, fail2.2.2.1, fail2.2.2.2.1, fail2.2.2.2.2)))) x
         else
          gd (i64b (i + 1)) (
          gd (i64b ((i + 1) - y4)) (
          (s_value_OfText N (byS ys2)).bind fun ofte =>
          (s_lex_scanner_put_v420 N ((i + 1) - y4) 3 [] ofte y3 y4 ys).bind fun put =>
          some (Sum.inr (Sum.inr (put.1, put.2.1, put.2.2))))))
       else
        bif (ltB 24 (List.length ys2 : Int)) then
         (s_lex_scanner_fail_v359 N 5 y3 y4 ys).bind fun x => Sum.elim
         (fun fail3 =>
          some (Sum.inl (fail3.1, fail3.2.1, fail3.2.2)))
         (fun fail4 =>
          some (Sum.inr (Sum.inl (fail4.1, fail4.2.1, fail4.2.2.1, fail4.2.2.2.1, fail4.2.2.2.2)))) x
        else
         gd (i64b (i + 1)) (
         gd (i64b ((i + 1) - y4)) (
         (s_value_OfText N (byS ys2)).bind fun ofte2 =>
         (s_lex_scanner_put_v420 N ((i + 1) - y4) 3 [] ofte2 y3 y4 ys).bind fun put2 =>
         some (Sum.inr (Sum.inr (put2.1, put2.2.1, put2.2.2))))))
  else
   (s_lex_scanner_fail_v359 N 3 y3 y4 ys).bind fun x => Sum.elim
   (fun fail5 =>
    some (Sum.inl (fail5.1, fail5.2.1, fail5.2.2)))
   (fun fail6 =>
    some (Sum.inr (Sum.inl (fail6.1, fail6.2.1, fail6.2.2.1, fail6.2.2.2.1, fail6.2.2.2.2)))) x
def s_lex_scanner_quoted_v558 (N : Nat) (y : List UInt8) (y2 : Int) (xs : List lex_Token) : Option ((List UInt8 × Int × List lex_Token) ⊕ (Int × Int × List UInt8 × Int × List lex_Token) ⊕ (List UInt8 × Int × List lex_Token)) :=
  gd (i64b (y2 + 1)) (
  lp5 (s_lex_scanner_quoted_v558_1 N) N (y2 + 1) y y2 xs [])
def s_lex_scanner_sign_v558 (N : Nat) (y : List UInt8) (y2 : Int) (xs : List lex_Token) : Option (List UInt8 × Int × List lex_Token) :=
  (ix y y2).bind fun c =>
  (s_strings_IndexByte N [33, 60, 62] (UInt8.toNat c : Int)).bind fun inde =>
  bif (leB 0 inde) then
   gd (i64b (y2 + 1)) (
   bif (ltB (y2 + 1) (List.length y : Int)) then
    gd (i64b (y2 + 1)) (
    (ix y (y2 + 1)).bind fun c2 =>
    bif ((UInt8.toNat c2 : Int) == 61) then
     gd (i64b (y2 + 2)) (
     gd (leB 0 y2) (
     gd (leB y2 (y2 + 2)) (
     gd (leB (y2 + 2) (List.length y : Int)) (
     (s_lex_scanner_put_v420 N 2 4 (List.drop (Int.toNat y2) (List.take (Int.toNat (y2 + 2)) y)) (value_Value.mk 0 0 0 []) y y2 xs).bind fun put =>
     some (put.1, put.2.1, put.2.2)))))
    else
     gd (i64b (y2 + 1)) (
     gd (leB 0 y2) (
     gd (leB y2 (y2 + 1)) (
     gd (leB (y2 + 1) (List.length y : Int)) (
     (s_lex_scanner_put_v420 N 1 4 (List.drop (Int.toNat y2) (List.take (Int.toNat (y2 + 1)) y)) (value_Value.mk 0 0 0 []) y y2 xs).bind fun put2 =>
     some (put2.1, put2.2.1, put2.2.2))))))
   else
    gd (i64b (y2 + 1)) (
    gd (leB 0 y2) (
    gd (leB y2 (y2 + 1)) (
    gd (leB (y2 + 1) (List.length y : Int)) (
    (s_lex_scanner_put_v420 N 1 4 (List.drop (Int.toNat y2) (List.take (Int.toNat (y2 + 1)) y)) (value_Value.mk 0 0 0 []) y y2 xs).bind fun put3 =>
    some (put3.1, put3.2.1, put3.2.2))))))
  else
   gd (i64b (y2 + 1)) (
   gd (leB 0 y2) (
   gd (leB y2 (y2 + 1)) (
   gd (leB (y2 + 1) (List.length y : Int)) (
   (s_lex_scanner_put_v420 N 1 4 (List.drop (Int.toNat y2) (List.take (Int.toNat (y2 + 1)) y)) (value_Value.mk 0 0 0 []) y y2 xs).bind fun put4 =>
   some (put4.1, put4.2.1, put4.2.2)))))
def s_lex_scanner_token_v558 (N : Nat) (y : List UInt8) (y2 : Int) (xs : List lex_Token) : Option ((List UInt8 × Int × List lex_Token) ⊕ (Int × Int × List UInt8 × Int × List lex_Token) ⊕ (List UInt8 × Int × List lex_Token)) :=
  (ix y y2).bind fun c =>
  (s_lex_small N (UInt8.toNat c : Int)).bind fun smal =>
  bif smal then
   bif ((List.length xs : Int) == 200) then
    (s_lex_scanner_fail_v359 N 7 y y2 xs).bind fun x => Sum.elim
    (fun fail =>
     some (Sum.inl (fail.1, fail.2.1, fail.2.2)))
    (fun fail2 =>
     some (Sum.inr (Sum.inl (fail2.1, fail2.2.1, fail2.2.2.1, fail2.2.2.2.1, fail2.2.2.2.2)))) x
   else
    (s_lex_small N (UInt8.toNat c : Int)).bind fun smal2 =>
    bif smal2 then
     (s_lex_scanner_word_v558 N y y2 xs).bind fun x => Sum.elim
     (fun word =>
      some (Sum.inr (Sum.inr (word.1, word.2.1, word.2.2))))
     (Sum.elim
     (fun word2 =>
      some (Sum.inl (word2.1, word2.2.1, word2.2.2)))
     (fun word3 =>
      some (Sum.inr (Sum.inl (word3.1, word3.2.1, word3.2.2.1, word3.2.2.2.1, word3.2.2.2.2))))) x
    else
     (s_lex_digit N (UInt8.toNat c : Int)).bind fun digi =>
     bif digi then
      (s_lex_scanner_number_v558 N y y2 xs).bind fun x => Sum.elim
      (fun numb =>
       some (Sum.inl (numb.1, numb.2.1, numb.2.2)))
      (Sum.elim
      (fun numb2 =>
       some (Sum.inr (Sum.inl (numb2.1, numb2.2.1, numb2.2.2.1, numb2.2.2.2.1, numb2.2.2.2.2))))
      (fun numb3 =>
       some (Sum.inr (Sum.inr (numb3.1, numb3.2.1, numb3.2.2))))) x
     else
      bif ((UInt8.toNat c : Int) == 35) then
       (s_lex_scanner_double_v558 N y y2 xs).bind fun x => Sum.elim
       (fun doub =>
        some (Sum.inl (doub.1, doub.2.1, doub.2.2)))
       (Sum.elim
       (fun doub2 =>
        some (Sum.inr (Sum.inl (doub2.1, doub2.2.1, doub2.2.2.1, doub2.2.2.2.1, doub2.2.2.2.2))))
       (fun doub3 =>
        some (Sum.inr (Sum.inr (doub3.1, doub3.2.1, doub3.2.2))))) x
      else
       bif ((UInt8.toNat c : Int) == 39) then
        (s_lex_scanner_quoted_v558 N y y2 xs).bind fun x => Sum.elim
        (fun quot =>
         some (Sum.inl (quot.1, quot.2.1, quot.2.2)))
        (Sum.elim
        (fun quot2 =>
         some (Sum.inr (Sum.inl (quot2.1, quot2.2.1, quot2.2.2.1, quot2.2.2.2.1, quot2.2.2.2.2))))
        (fun quot3 =>
         some (Sum.inr (Sum.inr (quot3.1, quot3.2.1, quot3.2.2))))) x
       else
        (s_lex_scanner_sign_v558 N y y2 xs).bind fun sign =>
        some (Sum.inr (Sum.inr (sign.1, sign.2.1, sign.2.2)))
  else
   (s_lex_digit N (UInt8.toNat c : Int)).bind fun digi2 =>
   bif digi2 then
    bif ((List.length xs : Int) == 200) then
     (s_lex_scanner_fail_v359 N 7 y y2 xs).bind fun x => Sum.elim
     (fun fail3 =>
      some (Sum.inl (fail3.1, fail3.2.1, fail3.2.2)))
     (fun fail4 =>
      some (Sum.inr (Sum.inl (fail4.1, fail4.2.1, fail4.2.2.1, fail4.2.2.2.1, fail4.2.2.2.2)))) x
    else
     (s_lex_small N (UInt8.toNat c : Int)).bind fun smal3 =>
     bif smal3 then
      (s_lex_scanner_word_v558 N y y2 xs).bind fun x => Sum.elim
      (fun word4 =>
       some (Sum.inr (Sum.inr (word4.1, word4.2.1, word4.2.2))))
      (Sum.elim
      (fun word5 =>
       some (Sum.inl (word5.1, word5.2.1, word5.2.2)))
      (fun word6 =>
       some (Sum.inr (Sum.inl (word6.1, word6.2.1, word6.2.2.1, word6.2.2.2.1, word6.2.2.2.2))))) x
     else
      (s_lex_digit N (UInt8.toNat c : Int)).bind fun digi3 =>
      bif digi3 then
       (s_lex_scanner_number_v558 N y y2 xs).bind fun x => Sum.elim
       (fun numb4 =>
        some (Sum.inl (numb4.1, numb4.2.1, numb4.2.2)))
       (Sum.elim
       (fun numb5 =>
        some (Sum.inr (Sum.inl (numb5.1, numb5.2.1, numb5.2.2.1, numb5.2.2.2.1, numb5.2.2.2.2))))
       (fun numb6 =>
        some (Sum.inr (Sum.inr (numb6.1, numb6.2.1, numb6.2.2))))) x
      else
       bif ((UInt8.toNat c : Int) == 35) then
        (s_lex_scanner_double_v558 N y y2 xs).bind fun x => Sum.elim
        (fun doub4 =>
         some (Sum.inl (doub4.1, doub4.2.1, doub4.2.2)))
        (Sum.elim
        (fun doub5 =>
         some (Sum.inr (Sum.inl (doub5.1, doub5.2.1, doub5.2.2.1, doub5.2.2.2.1, doub5.2.2.2.2))))
        (fun doub6 =>
         some (Sum.inr (Sum.inr (doub6.1, doub6.2.1, doub6.2.2))))) x
       else
        bif ((UInt8.toNat c : Int) == 39) then
         (s_lex_scanner_quoted_v558 N y y2 xs).bind fun x => Sum.elim
         (fun quot4 =>
          some (Sum.inl (quot4.1, quot4.2.1, quot4.2.2)))
         (Sum.elim
         (fun quot5 =>
          some (Sum.inr (Sum.inl (quot5.1, quot5.2.1, quot5.2.2.1, quot5.2.2.2.1, quot5.2.2.2.2))))
         (fun quot6 =>
          some (Sum.inr (Sum.inr (quot6.1, quot6.2.1, quot6.2.2))))) x
        else
         (s_lex_scanner_sign_v558 N y y2 xs).bind fun sign2 =>
         some (Sum.inr (Sum.inr (sign2.1, sign2.2.1, sign2.2.2)))
   else
    bif ((UInt8.toNat c : Int) == 35) then
     bif ((List.length xs : Int) == 200) then
      (s_lex_scanner_fail_v359 N 7 y y2 xs).bind fun x => Sum.elim
      (fun fail5 =>
       some (Sum.inl (fail5.1, fail5.2.1, fail5.2.2)))
      (fun fail6 =>
       some (Sum.inr (Sum.inl (fail6.1, fail6.2.1, fail6.2.2.1, fail6.2.2.2.1, fail6.2.2.2.2)))) x
     else
      (s_lex_small N (UInt8.toNat c : Int)).bind fun smal4 =>
      bif smal4 then
       (s_lex_scanner_word_v558 N y y2 xs).bind fun x => Sum.elim
       (fun word7 =>
        some (Sum.inr (Sum.inr (word7.1, word7.2.1, word7.2.2))))
       (Sum.elim
       (fun word8 =>
        some (Sum.inl (word8.1, word8.2.1, word8.2.2)))
       (fun word9 =>
        some (Sum.inr (Sum.inl (word9.1, word9.2.1, word9.2.2.1, word9.2.2.2.1, word9.2.2.2.2))))) x
      else
       (s_lex_digit N (UInt8.toNat c : Int)).bind fun digi4 =>
       bif digi4 then
        (s_lex_scanner_number_v558 N y y2 xs).bind fun x => Sum.elim
        (fun numb7 =>
         some (Sum.inl (numb7.1, numb7.2.1, numb7.2.2)))
        (Sum.elim
        (fun numb8 =>
         some (Sum.inr (Sum.inl (numb8.1, numb8.2.1, numb8.2.2.1, numb8.2.2.2.1, numb8.2.2.2.2))))
        (fun numb9 =>
         some (Sum.inr (Sum.inr (numb9.1, numb9.2.1, numb9.2.2))))) x
       else
        bif ((UInt8.toNat c : Int) == 35) then
         (s_lex_scanner_double_v558 N y y2 xs).bind fun x => Sum.elim
         (fun doub7 =>
          some (Sum.inl (doub7.1, doub7.2.1, doub7.2.2)))
         (Sum.elim
         (fun doub8 =>
          some (Sum.inr (Sum.inl (doub8.1, doub8.2.1, doub8.2.2.1, doub8.2.2.2.1, doub8.2.2.2.2))))
         (fun doub9 =>
          some (Sum.inr (Sum.inr (doub9.1, doub9.2.1, doub9.2.2))))) x
        else
         bif ((UInt8.toNat c : Int) == 39) then
          (s_lex_scanner_quoted_v558 N y y2 xs).bind fun x => Sum.elim
          (fun quot7 =>
           some (Sum.inl (quot7.1, quot7.2.1, quot7.2.2)))
          (Sum.elim
          (fun quot8 =>
           some (Sum.inr (Sum.inl (quot8.1, quot8.2.1, quot8.2.2.1, quot8.2.2.2.1, quot8.2.2.2.2))))
          (fun quot9 =>
           some (Sum.inr (Sum.inr (quot9.1, quot9.2.1, quot9.2.2))))) x
         else
          (s_lex_scanner_sign_v558 N y y2 xs).bind fun sign3 =>
          some (Sum.inr (Sum.inr (sign3.1, sign3.2.1, sign3.2.2)))
    else
     bif ((UInt8.toNat c : Int) == 39) then
      bif ((List.length xs : Int) == 200) then
       (s_lex_scanner_fail_v359 N 7 y y2 xs).bind fun x => Sum.elim
       (fun fail7 =>
        some (Sum.inl (fail7.1, fail7.2.1, fail7.2.2)))
       (fun fail8 =>
        some (Sum.inr (Sum.inl (fail8.1, fail8.2.1, fail8.2.2.1, fail8.2.2.2.1, fail8.2.2.2.2)))) x
      else
       (s_lex_small N (UInt8.toNat c : Int)).bind fun smal5 =>
       bif smal5 then
        (s_lex_scanner_word_v558 N y y2 xs).bind fun x => Sum.elim
        (fun word10 =>
         some (Sum.inr (Sum.inr (word10.1, word10.2.1, word10.2.2))))
        (Sum.elim
        (fun word11 =>
         some (Sum.inl (word11.1, word11.2.1, word11.2.2)))
        (fun word12 =>
         some (Sum.inr (Sum.inl (word12.1, word12.2.1, word12.2.2.1, word12.2.2.2.1, word12.2.2.2.2))))) x
       else
        (s_lex_digit N (UInt8.toNat c : Int)).bind fun digi5 =>
        bif digi5 then
         (s_lex_scanner_number_v558 N y y2 xs).bind fun x => Sum.elim
         (fun numb10 =>
          some (Sum.inl (numb10.1, numb10.2.1, numb10.2.2)))
         (Sum.elim
         (fun numb11 =>
          some (Sum.inr (Sum.inl (numb11.1, numb11.2.1, numb11.2.2.1, numb11.2.2.2.1, numb11.2.2.2.2))))
         (fun numb12 =>
          some (Sum.inr (Sum.inr (numb12.1, numb12.2.1, numb12.2.2))))) x
        else
         bif ((UInt8.toNat c : Int) == 35) then
          (s_lex_scanner_double_v558 N y y2 xs).bind fun x => Sum.elim
          (fun doub10 =>
           some (Sum.inl (doub10.1, doub10.2.1, doub10.2.2)))
          (Sum.elim
          (fun doub11 =>
           some (Sum.inr (Sum.inl (doub11.1, doub11.2.1, doub11.2.2.1, doub11.2.2.2.1, doub11.2.2.2.2))))
          (fun doub12 =>
           some (Sum.inr (Sum.inr (doub12.1, doub12.2.1, doub12.2.2))))) x
         else
          bif ((UInt8.toNat c : Int) == 39) then
           (s_lex_scanner_quoted_v558 N y y2 xs).bind fun x => Sum.elim
           (fun quot10 =>
            some (Sum.inl (quot10.1, quot10.2.1, quot10.2.2)))
           (Sum.elim
           (fun quot11 =>
            some (Sum.inr (Sum.inl (quot11.1, quot11.2.1, quot11.2.2.1, quot11.2.2.2.1, quot11.2.2.2.2))))
           (fun quot12 =>
            some (Sum.inr (Sum.inr (quot12.1, quot12.2.1, quot12.2.2))))) x
          else
           (s_lex_scanner_sign_v558 N y y2 xs).bind fun sign4 =>
           some (Sum.inr (Sum.inr (sign4.1, sign4.2.1, sign4.2.2)))
     else
      (s_strings_IndexByte N [40, 41, 91, 93, 123, 125, 59, 124, 33, 58, 44, 46, 43, 42, 63, 45, 61, 60, 62] (UInt8.toNat c : Int)).bind fun inde =>
      bif (!(leB 0 inde)) then
       (s_lex_scanner_fail_v359 N 10 y y2 xs).bind fun x => Sum.elim
       (fun fail9 =>
        some (Sum.inl (fail9.1, fail9.2.1, fail9.2.2)))
       (fun fail10 =>
        some (Sum.inr (Sum.inl (fail10.1, fail10.2.1, fail10.2.2.1, fail10.2.2.2.1, fail10.2.2.2.2)))) x
      else
       bif ((List.length xs : Int) == 200) then
        (s_lex_scanner_fail_v359 N 7 y y2 xs).bind fun x => Sum.elim
        (fun fail11 =>
         some (Sum.inl (fail11.1, fail11.2.1, fail11.2.2)))
        (fun fail12 =>
         some (Sum.inr (Sum.inl (fail12.1, fail12.2.1, fail12.2.2.1, fail12.2.2.2.1, fail12.2.2.2.2)))) x
       else
        (s_lex_small N (UInt8.toNat c : Int)).bind fun smal6 =>
        bif smal6 then
         (s_lex_scanner_word_v558 N y y2 xs).bind fun x => Sum.elim
         (fun word13 =>
          some (Sum.inr (Sum.inr (word13.1, word13.2.1, word13.2.2))))
         (Sum.elim
         (fun word14 =>
          some (Sum.inl (word14.1, word14.2.1, word14.2.2)))
         (fun word15 =>
          some (Sum.inr (Sum.inl (word15.1, word15.2.1, word15.2.2.1, word15.2.2.2.1, word15.2.2.2.2))))) x
        else
         (s_lex_digit N (UInt8.toNat c : Int)).bind fun digi6 =>
         bif digi6 then
          (s_lex_scanner_number_v558 N y y2 xs).bind fun x => Sum.elim
          (fun numb13 =>
           some (Sum.inl (numb13.1, numb13.2.1, numb13.2.2)))
          (Sum.elim
          (fun numb14 =>
           some (Sum.inr (Sum.inl (numb14.1, numb14.2.1, numb14.2.2.1, numb14.2.2.2.1, numb14.2.2.2.2))))
          (fun numb15 =>
           some (Sum.inr (Sum.inr (numb15.1, numb15.2.1, numb15.2.2))))) x
         else
          bif ((UInt8.toNat c : Int) == 35) then
           (s_lex_scanner_double_v558 N y y2 xs).bind fun x => Sum.elim
           (fun doub13 =>
            some (Sum.inl (doub13.1, doub13.2.1, doub13.2.2)))
           (Sum.elim
           (fun doub14 =>
            some (Sum.inr (Sum.inl (doub14.1, doub14.2.1, doub14.2.2.1, doub14.2.2.2.1, doub14.2.2.2.2))))
           (fun doub15 =>
            some (Sum.inr (Sum.inr (doub15.1, doub15.2.1, doub15.2.2))))) x
          else
           bif ((UInt8.toNat c : Int) == 39) then
            (s_lex_scanner_quoted_v558 N y y2 xs).bind fun x => Sum.elim
            (fun quot13 =>
             some (Sum.inl (quot13.1, quot13.2.1, quot13.2.2)))
            (Sum.elim
            (fun quot14 =>
             some (Sum.inr (Sum.inl (quot14.1, quot14.2.1, quot14.2.2.1, quot14.2.2.2.1, quot14.2.2.2.2))))
            (fun quot15 =>
             some (Sum.inr (Sum.inr (quot15.1, quot15.2.1, quot15.2.2))))) x
           else
            (s_lex_scanner_sign_v558 N y y2 xs).bind fun sign5 =>
            some (Sum.inr (Sum.inr (sign5.1, sign5.2.1, sign5.2.2)))
def s_lex_Scan_1 (N : Nat) (s : List UInt8) (next0 : (List UInt8) → Int → (List lex_Token) → Option ((List lex_Token) ⊕ (List lex_Token × Int × Int))) (y : List UInt8) (y2 : Int) (ys : List lex_Token) : Option ((List lex_Token) ⊕ (List lex_Token × Int × Int)) :=
  bif (ltB y2 (List.length s : Int)) then
   (ix s y2).bind fun c =>
   bif ((UInt8.toNat c : Int) == 32) then
    gd (i64b (y2 + 1)) (
    next0 y (y2 + 1) ys)
   else
    bif ((UInt8.toNat c : Int) == 9) then
     gd (i64b (y2 + 1)) (
     next0 y (y2 + 1) ys)
    else
     bif ((UInt8.toNat c : Int) == 10) then
      gd (i64b (y2 + 1)) (
      next0 y (y2 + 1) ys)
     else
      (s_lex_scanner_token_v558 N y y2 ys).bind fun x => Sum.elim
      (fun toke =>
       next0 toke.1 toke.2.1 toke.2.2)
      (Sum.elim
      (fun toke2 =>
       some (Sum.inr ([], toke2.1, toke2.2.1)))
      (fun toke3 =>
       next0 toke3.1 toke3.2.1 toke3.2.2)) x
  else
   some (Sum.inl ys)
def s_lex_Scan (N : Nat) (s : List UInt8) : Option ((List lex_Token) ⊕ (List lex_Token × Int × Int)) :=
  bif (ltB 600 (List.length s : Int)) then
   (s_fault_New N 5 0).bind fun x => Sum.elim
   (fun new =>
    some (Sum.inl []))
   (fun new2 =>
    some (Sum.inr ([], new2.1, new2.2))) x
  else
   lp3 (s_lex_Scan_1 N s) N s 0 []
def s_grammar_reader_peek_v368 (N : Nat) (kind : Int) (text : List UInt8) (y : List lex_Token) (y2 : Int) (y3 : Int) : Option (Bool × List lex_Token × Int × Int) :=
  bif (ltB y2 (List.length y : Int)) then
   (ix y y2).bind fun e =>
   bif (e.Kind == kind) then
    (ix y y2).bind fun e2 =>
    some ((e2.Text == text), y, y2, y3)
   else
    some (false, y, y2, y3)
  else
   some (false, y, y2, y3)
def s_grammar_reader_eat_v368 (N : Nat) (kind : Int) (text : List UInt8) (y : List lex_Token) (y2 : Int) (y3 : Int) : Option (Bool × List lex_Token × Int × Int) :=
  (s_grammar_reader_peek_v368 N kind text y y2 y3).bind fun peek =>
  bif (!peek.1) then
   some (false, peek.2.1, peek.2.2.1, peek.2.2.2)
  else
   gd (i64b (peek.2.2.1 + 1)) (
   some (true, peek.2.1, (peek.2.2.1 + 1), peek.2.2.2))
def s_grammar_stop_n (N : Nat) : Option Unit :=
  some ()
def s_grammar_stop_f (N : Nat) (err : Int) (err2 : Int) : Option (Int × Int) :=
  some (err, err2)
def s_grammar_reader_fail_v927 (N : Nat) (e : Int) (y : List lex_Token) (y2 : Int) (y3 : Int) : Option ((List lex_Token × Int × Int) ⊕ (Int × Int × List lex_Token × Int × Int)) :=
  bif (ltB y2 (List.length y : Int)) then
   (ix y y2).bind fun e2 =>
   (s_fault_New N e e2.At).bind fun x => Sum.elim
   (fun new =>
    (s_grammar_stop_n N).bind fun stop =>
    some (Sum.inl (y, y2, y3)))
   (fun new2 =>
    (s_grammar_stop_f N new2.1 new2.2).bind fun stop2 =>
    some (Sum.inr (stop2.1, stop2.2, y, y2, y3))) x
  else
   (s_fault_New N e y3).bind fun x => Sum.elim
   (fun new3 =>
    (s_grammar_stop_n N).bind fun stop3 =>
    some (Sum.inl (y, y2, y3)))
   (fun new4 =>
    (s_grammar_stop_f N new4.1 new4.2).bind fun stop4 =>
    some (Sum.inr (stop4.1, stop4.2, y, y2, y3))) x
def s_grammar_reader_name_v424 (N : Nat) (y : List lex_Token) (y2 : Int) (y3 : Int) : Option ((List UInt8 × List lex_Token × Int × Int) ⊕ (Int × Int × List lex_Token × Int × Int)) :=
  bif (leB (List.length y : Int) y2) then
   (s_grammar_reader_fail_v927 N 4 y y2 y3).bind fun x => Sum.elim
   (fun fail =>
    gd (i64b (fail.2.1 + 1)) (
    gd (i64b ((fail.2.1 + 1) - 1)) (
    (ix fail.1 ((fail.2.1 + 1) - 1)).bind fun e =>
    some (Sum.inl (e.Text, fail.1, (fail.2.1 + 1), fail.2.2)))))
   (fun fail2 =>
    some (Sum.inr (fail2.1, fail2.2.1, fail2.2.2.1, fail2.2.2.2.1, fail2.2.2.2.2))) x
  else
   (ix y y2).bind fun e2 =>
   bif (e2.Kind != 1) then
    (s_grammar_reader_fail_v927 N 4 y y2 y3).bind fun x => Sum.elim
    (fun fail3 =>
     gd (i64b (fail3.2.1 + 1)) (
     gd (i64b ((fail3.2.1 + 1) - 1)) (
     (ix fail3.1 ((fail3.2.1 + 1) - 1)).bind fun e3 =>
     some (Sum.inl (e3.Text, fail3.1, (fail3.2.1 + 1), fail3.2.2)))))
    (fun fail4 =>
     some (Sum.inr (fail4.1, fail4.2.1, fail4.2.2.1, fail4.2.2.2.1, fail4.2.2.2.2))) x
   else
    gd (i64b (y2 + 1)) (
    gd (i64b ((y2 + 1) - 1)) (
    (ix y ((y2 + 1) - 1)).bind fun e4 =>
    some (Sum.inl (e4.Text, y, (y2 + 1), y3))))
def s_grammar_reader_must_v368 (N : Nat) (kind : Int) (text : List UInt8) (y : List lex_Token) (y2 : Int) (y3 : Int) : Option ((List lex_Token × Int × Int) ⊕ (Int × Int × List lex_Token × Int × Int)) :=
  (s_grammar_reader_eat_v368 N kind text y y2 y3).bind fun eat =>
  bif (!eat.1) then
   (s_grammar_reader_fail_v927 N 4 eat.2.1 eat.2.2.1 eat.2.2.2).bind fun x => Sum.elim
   (fun fail =>
    some (Sum.inl (fail.1, fail.2.1, fail.2.2)))
   (fun fail2 =>
    some (Sum.inr (fail2.1, fail2.2.1, fail2.2.2.1, fail2.2.2.2.1, fail2.2.2.2.2))) x
  else
   some (Sum.inl (eat.2.1, eat.2.2.1, eat.2.2.2))
def s_predtext_parser_next_v424 (N : Nat) (y : List lex_Token) (y2 : Int) (y3 : Int) : Option (lex_Token × List lex_Token × Int × Int) :=
  bif (ltB y2 (List.length y : Int)) then
   (ix y y2).bind fun e =>
   some (e, y, y2, y3)
  else
   some ((lex_Token.mk 0 0 [] (value_Value.mk 0 0 0 [])), y, y2, y3)
def s_predtext_parser_place_v424 (N : Nat) (y : List lex_Token) (y2 : Int) (y3 : Int) : Option (Int × List lex_Token × Int × Int) :=
  bif (ltB y2 (List.length y : Int)) then
   (ix y y2).bind fun e =>
   some (e.At, y, y2, y3)
  else
   some (y3, y, y2, y3)
def s_predtext_parser_fail_v927 (N : Nat) (e : Int) (y : List lex_Token) (y2 : Int) (y3 : Int) : Option (Int × Int × List lex_Token × Int × Int) :=
  (s_predtext_parser_place_v424 N y y2 y3).bind fun plac =>
  some (e, plac.1, plac.2.1, plac.2.2.1, plac.2.2.2)
def s_predtext_parser_deeper_v927 (N : Nat) (deep : Int) (y : List lex_Token) (y2 : Int) (y3 : Int) : Option ((Int × Int × List lex_Token × Int × Int) ⊕ (List lex_Token × Int × Int)) :=
  (s_predtext_parser_next_v424 N y y2 y3).bind fun vnext =>
  bif (vnext.1.Kind == 2) then
   bif (vnext.1.Text == [110, 111, 116]) then
    bif (leB 16 deep) then
     (s_predtext_parser_fail_v927 N 15 vnext.2.1 vnext.2.2.1 vnext.2.2.2).bind fun fail =>
     some (Sum.inl (fail.1, fail.2.1, fail.2.2.1, fail.2.2.2.1, fail.2.2.2.2))
    else
     some (Sum.inr (vnext.2.1, vnext.2.2.1, vnext.2.2.2))
   else
    bif (vnext.1.Kind == 4) then
     bif (vnext.1.Text == [40]) then
      bif (leB 16 deep) then
       (s_predtext_parser_fail_v927 N 15 vnext.2.1 vnext.2.2.1 vnext.2.2.2).bind fun fail2 =>
       some (Sum.inl (fail2.1, fail2.2.1, fail2.2.2.1, fail2.2.2.2.1, fail2.2.2.2.2))
      else
       some (Sum.inr (vnext.2.1, vnext.2.2.1, vnext.2.2.2))
     else
      some (Sum.inr (vnext.2.1, vnext.2.2.1, vnext.2.2.2))
    else
     some (Sum.inr (vnext.2.1, vnext.2.2.1, vnext.2.2.2))
  else
   bif (vnext.1.Kind == 4) then
    bif (vnext.1.Text == [40]) then
     bif (leB 16 deep) then
      (s_predtext_parser_fail_v927 N 15 vnext.2.1 vnext.2.2.1 vnext.2.2.2).bind fun fail3 =>
      some (Sum.inl (fail3.1, fail3.2.1, fail3.2.2.1, fail3.2.2.2.1, fail3.2.2.2.2))
     else
      some (Sum.inr (vnext.2.1, vnext.2.2.1, vnext.2.2.2))
    else
     some (Sum.inr (vnext.2.1, vnext.2.2.1, vnext.2.2.2))
   else
    some (Sum.inr (vnext.2.1, vnext.2.2.1, vnext.2.2.2))
def s_predtext_parser_eat_v368 (N : Nat) (kind : Int) (text : List UInt8) (y : List lex_Token) (y2 : Int) (y3 : Int) : Option (Bool × List lex_Token × Int × Int) :=
  (s_predtext_parser_next_v424 N y y2 y3).bind fun vnext =>
  bif (vnext.1.Kind != kind) then
   some (false, vnext.2.1, vnext.2.2.1, vnext.2.2.2)
  else
   bif (!(vnext.1.Text == text)) then
    some (false, vnext.2.1, vnext.2.2.1, vnext.2.2.2)
   else
    gd (i64b (vnext.2.2.1 + 1)) (
    some (true, vnext.2.1, (vnext.2.2.1 + 1), vnext.2.2.2))
def s_slices_Grow_pred_Node_own (N : Nat) (n : Int) : Option (List pred_Node) := gd (leB 0 n) (gd (leB (80 * n) 140737488355328) (some []))
def s_slices_Concat_pred_Node_2 (N : Nat) (x4 : List (List pred_Node)) (x5 : Int) (next2 : Int → (List pred_Node) → Option ((List UInt8) ⊕ (List pred_Node))) (x6 : Int) (ys : List pred_Node) : Option ((List UInt8) ⊕ (List pred_Node)) :=
  bif (ltB x6 x5) then
   (ix x4 x6).bind fun e2 =>
   gd (Nat.ble ((List.length ys + List.length e2) * 80) 140737488355328) (
   gd (i64b (x6 + 1)) (
   next2 (x6 + 1) (ys ++ e2)))
  else
   some (Sum.inr ys)
def s_slices_Concat_pred_Node_1 (N : Nat) (slices : List (List pred_Node)) (x : List (List pred_Node)) (x2 : Int) (next0 : Int → Int → Option ((List UInt8) ⊕ (List pred_Node))) (size : Int) (x3 : Int) : Option ((List UInt8) ⊕ (List pred_Node)) :=
  bif (ltB x3 x2) then
   (ix x x3).bind fun e =>
   gd (i64b (size + (List.length e : Int))) (
   bif (ltB (size + (List.length e : Int)) 0) then
    some (Sum.inl [108, 101, 110, 32, 111, 117, 116, 32, 111, 102, 32, 114, 97, 110, 103, 101])
   else
    gd (i64b (x3 + 1)) (
    next0 (size + (List.length e : Int)) (x3 + 1)))
  else
   (s_slices_Grow_pred_Node_own N size).bind fun node =>
   lp2 (s_slices_Concat_pred_Node_2 N slices (List.length slices : Int)) N 0 node
def s_slices_Concat_pred_Node (N : Nat) (slices : List (List pred_Node)) : Option ((List UInt8) ⊕ (List pred_Node)) :=
  lp2 (s_slices_Concat_pred_Node_1 N slices slices (List.length slices : Int)) N 0 0
def s_predtext_above (N : Nat) (n : pred_Node) (kids : List (List pred_Node)) : Option (List pred_Node) :=
  (s_slices_Concat_pred_Node N kids).bind fun x => Sum.elim
  (fun node =>
   none)
  (fun node2 =>
   gd (Nat.ble ((1 + List.length node2) * 80) 140737488355328) (
   some (n :: node2))) x
def s_predtext_parser_take_v128 (N : Nat) (kind : Int) (y : List lex_Token) (y2 : Int) (y3 : Int) : Option ((Int × Int × List lex_Token × Int × Int) ⊕ (lex_Token × List lex_Token × Int × Int)) :=
  (s_predtext_parser_next_v424 N y y2 y3).bind fun vnext =>
  bif (vnext.1.Kind != kind) then
   (s_predtext_parser_fail_v927 N 4 vnext.2.1 vnext.2.2.1 vnext.2.2.2).bind fun fail =>
   some (Sum.inl (fail.1, fail.2.1, fail.2.2.1, fail.2.2.2.1, fail.2.2.2.2))
  else
   gd (i64b (vnext.2.2.1 + 1)) (
   some (Sum.inr (vnext.1, vnext.2.1, (vnext.2.2.1 + 1), vnext.2.2.2)))
def s_predtext_parser_unit_v424 (N : Nat) (y : List lex_Token) (y2 : Int) (y3 : Int) : Option ((Int × Int × List lex_Token × Int × Int) ⊕ (List pred_Node × List lex_Token × Int × Int)) :=
  (s_predtext_parser_eat_v368 N 4 [45] y y2 y3).bind fun eat =>
  bif eat.1 then
   (s_predtext_parser_next_v424 N eat.2.1 eat.2.2.1 eat.2.2.2).bind fun vnext =>
   bif (vnext.1.Val.Kind != 1) then
    (s_predtext_parser_fail_v927 N 4 vnext.2.1 vnext.2.2.1 vnext.2.2.2).bind fun fail =>
    some (Sum.inl (fail.1, fail.2.1, fail.2.2.1, fail.2.2.2.1, fail.2.2.2.2))
   else
    (s_predtext_parser_take_v128 N 3 vnext.2.1 vnext.2.2.1 vnext.2.2.2).bind fun x => Sum.elim
    (fun take =>
     some (Sum.inl (take.1, take.2.1, take.2.2.1, take.2.2.2.1, take.2.2.2.2)))
    (fun take2 =>
     some (Sum.inr ([(pred_Node.mk 9 0 [] [] (value_Value.mk take2.1.Val.Kind (IntKind.i64.wrap (0 - take2.1.Val.N)) take2.1.Val.Bits take2.1.Val.Text))], take2.2.1, take2.2.2.1, take2.2.2.2))) x
  else
   (s_predtext_parser_next_v424 N eat.2.1 eat.2.2.1 eat.2.2.2).bind fun vnext2 =>
   bif (vnext2.1.Kind == 3) then
    gd (i64b (vnext2.2.2.1 + 1)) (
    some (Sum.inr ([(pred_Node.mk 9 0 [] [] vnext2.1.Val)], vnext2.2.1, (vnext2.2.2.1 + 1), vnext2.2.2.2)))
   else
    (s_predtext_parser_take_v128 N 1 vnext2.2.1 vnext2.2.2.1 vnext2.2.2.2).bind fun x => Sum.elim
    (fun take3 =>
     some (Sum.inl (take3.1, take3.2.1, take3.2.2.1, take3.2.2.2.1, take3.2.2.2.2)))
    (fun take4 =>
     (s_predtext_parser_eat_v368 N 4 [46] take4.2.1 take4.2.2.1 take4.2.2.2).bind fun eat2 =>
     bif eat2.1 then
      (s_predtext_parser_take_v128 N 1 eat2.2.1 eat2.2.2.1 eat2.2.2.2).bind fun x => Sum.elim
      (fun take5 =>
       some (Sum.inl (take5.1, take5.2.1, take5.2.2.1, take5.2.2.2.1, take5.2.2.2.2)))
      (fun take6 =>
       some (Sum.inr ([(pred_Node.mk 8 0 take4.1.Text take6.1.Text (value_Value.mk 0 0 0 []))], take6.2.1, take6.2.2.1, take6.2.2.2))) x
     else
      some (Sum.inr ([(pred_Node.mk 7 0 [] take4.1.Text (value_Value.mk 0 0 0 []))], eat2.2.1, eat2.2.2.1, eat2.2.2.2))) x
def s_predtext_parser_sum_v424_1 (N : Nat) (next0 : (List pred_Node) → (List lex_Token) → Int → Int → Option ((Int × Int × List lex_Token × Int × Int) ⊕ (List pred_Node × List lex_Token × Int × Int))) (l : List pred_Node) (y4 : List lex_Token) (y5 : Int) (y6 : Int) : Option ((Int × Int × List lex_Token × Int × Int) ⊕ (List pred_Node × List lex_Token × Int × Int)) :=
  (s_predtext_parser_eat_v368 N 4 [43] y4 y5 y6).bind fun eat =>
  bif eat.1 then
   (s_predtext_parser_unit_v424 N eat.2.1 eat.2.2.1 eat.2.2.2).bind fun x => Sum.elim
   (fun unit3 =>
    some (Sum.inl (unit3.1, unit3.2.1, unit3.2.2.1, unit3.2.2.2.1, unit3.2.2.2.2)))
   (fun unit4 =>
    (s_predtext_above N (pred_Node.mk 5 0 [] [] (value_Value.mk 0 0 0 [])) [l, unit4.1]).bind fun abov =>
    next0 abov unit4.2.1 unit4.2.2.1 unit4.2.2.2) x
  else
   (s_predtext_parser_eat_v368 N 4 [45] eat.2.1 eat.2.2.1 eat.2.2.2).bind fun eat2 =>
   bif eat2.1 then
    (s_predtext_parser_unit_v424 N eat2.2.1 eat2.2.2.1 eat2.2.2.2).bind fun x => Sum.elim
    (fun unit5 =>
     some (Sum.inl (unit5.1, unit5.2.1, unit5.2.2.1, unit5.2.2.2.1, unit5.2.2.2.2)))
    (fun unit6 =>
     (s_predtext_above N (pred_Node.mk 6 0 [] [] (value_Value.mk 0 0 0 [])) [l, unit6.1]).bind fun abov2 =>
     next0 abov2 unit6.2.1 unit6.2.2.1 unit6.2.2.2) x
   else
    some (Sum.inr (l, eat2.2.1, eat2.2.2.1, eat2.2.2.2))
def s_predtext_parser_sum_v424 (N : Nat) (y : List lex_Token) (y2 : Int) (y3 : Int) : Option ((Int × Int × List lex_Token × Int × Int) ⊕ (List pred_Node × List lex_Token × Int × Int)) :=
  (s_predtext_parser_unit_v424 N y y2 y3).bind fun x => Sum.elim
  (fun unit =>
   some (Sum.inl (unit.1, unit.2.1, unit.2.2.1, unit.2.2.2.1, unit.2.2.2.2)))
  (fun unit2 =>
   lp4 (s_predtext_parser_sum_v424_1 N) N unit2.1 unit2.2.1 unit2.2.2.1 unit2.2.2.2) x
def s_compare_Sign (N : Nat) (op : Int) : Option (List UInt8) :=
  bif (op == 1) then
   some [61]
  else
   bif (op == 2) then
    some [33, 61]
   else
    bif (op == 3) then
     some [60]
    else
     bif (op == 4) then
      some [60, 61]
     else
      bif (op == 5) then
       some [62]
      else
       bif (op == 6) then
        some [62, 61]
       else
        some []
def s_compare_Op_1 (N : Nat) (sign : List UInt8) (next0 : Int → Option Int) (op : Int) : Option Int :=
  bif (leB op 6) then
   (s_compare_Sign N op).bind fun sign2 =>
   bif (sign2 == sign) then
    some op
   else
    next0 (IntKind.u8.wrap (op + 1))
  else
   some 0
def s_compare_Op (N : Nat) (sign : List UInt8) : Option Int :=
  lp1 (s_compare_Op_1 N sign) N 1
abbrev TS_predtext_parser_or_v927 : Type := (Int → (List lex_Token) → Int → Int → Option ((Int × Int × List lex_Token × Int × Int) ⊕ (List pred_Node × List lex_Token × Int × Int))) × (Int → (List lex_Token) → Int → Int → Option ((Int × Int × List lex_Token × Int × Int) ⊕ (List pred_Node × List lex_Token × Int × Int))) × (Int → (List lex_Token) → Int → Int → Option ((Int × Int × List lex_Token × Int × Int) ⊕ (List pred_Node × List lex_Token × Int × Int)))
def s_predtext_parser_or_v927_1 (N : Nat) (p : TS_predtext_parser_or_v927) (deep : Int) (next0 : (List pred_Node) → (List lex_Token) → Int → Int → Option ((Int × Int × List lex_Token × Int × Int) ⊕ (List pred_Node × List lex_Token × Int × Int))) (l : List pred_Node) (y4 : List lex_Token) (y5 : Int) (y6 : Int) : Option ((Int × Int × List lex_Token × Int × Int) ⊕ (List pred_Node × List lex_Token × Int × Int)) :=
  (s_predtext_parser_eat_v368 N 2 [111, 114] y4 y5 y6).bind fun eat =>
  bif eat.1 then
   (p.2.1 deep eat.2.1 eat.2.2.1 eat.2.2.2).bind fun x => Sum.elim
   (fun and3 =>
    some (Sum.inl (and3.1, and3.2.1, and3.2.2.1, and3.2.2.2.1, and3.2.2.2.2)))
   (fun and4 =>
    (s_predtext_above N (pred_Node.mk 2 0 [] [] (value_Value.mk 0 0 0 [])) [l, and4.1]).bind fun abov =>
    next0 abov and4.2.1 and4.2.2.1 and4.2.2.2) x
  else
   some (Sum.inr (l, eat.2.1, eat.2.2.1, eat.2.2.2))
def b_predtext_parser_or_v927 (N : Nat) (p : TS_predtext_parser_or_v927) (deep : Int) (y : List lex_Token) (y2 : Int) (y3 : Int) : Option ((Int × Int × List lex_Token × Int × Int) ⊕ (List pred_Node × List lex_Token × Int × Int)) :=
  (p.2.1 deep y y2 y3).bind fun x => Sum.elim
  (fun and =>
   some (Sum.inl (and.1, and.2.1, and.2.2.1, and.2.2.2.1, and.2.2.2.2)))
  (fun and2 =>
   lp4 (s_predtext_parser_or_v927_1 N p deep) N and2.1 and2.2.1 and2.2.2.1 and2.2.2.2) x
def s_predtext_parser_and_v927_1 (N : Nat) (p : TS_predtext_parser_or_v927) (deep : Int) (next0 : (List pred_Node) → (List lex_Token) → Int → Int → Option ((Int × Int × List lex_Token × Int × Int) ⊕ (List pred_Node × List lex_Token × Int × Int))) (l : List pred_Node) (y4 : List lex_Token) (y5 : Int) (y6 : Int) : Option ((Int × Int × List lex_Token × Int × Int) ⊕ (List pred_Node × List lex_Token × Int × Int)) :=
  (s_predtext_parser_eat_v368 N 2 [97, 110, 100] y4 y5 y6).bind fun eat =>
  bif eat.1 then
   (p.2.2 deep eat.2.1 eat.2.2.1 eat.2.2.2).bind fun x => Sum.elim
   (fun part3 =>
    some (Sum.inl (part3.1, part3.2.1, part3.2.2.1, part3.2.2.2.1, part3.2.2.2.2)))
   (fun part4 =>
    (s_predtext_above N (pred_Node.mk 1 0 [] [] (value_Value.mk 0 0 0 [])) [l, part4.1]).bind fun abov =>
    next0 abov part4.2.1 part4.2.2.1 part4.2.2.2) x
  else
   some (Sum.inr (l, eat.2.1, eat.2.2.1, eat.2.2.2))
def b_predtext_parser_and_v927 (N : Nat) (p : TS_predtext_parser_or_v927) (deep : Int) (y : List lex_Token) (y2 : Int) (y3 : Int) : Option ((Int × Int × List lex_Token × Int × Int) ⊕ (List pred_Node × List lex_Token × Int × Int)) :=
  (p.2.2 deep y y2 y3).bind fun x => Sum.elim
  (fun part =>
   some (Sum.inl (part.1, part.2.1, part.2.2.1, part.2.2.2.1, part.2.2.2.2)))
  (fun part2 =>
   lp4 (s_predtext_parser_and_v927_1 N p deep) N part2.1 part2.2.1 part2.2.2.1 part2.2.2.2) x
def b_predtext_parser_part_v927 (N : Nat) (p : TS_predtext_parser_or_v927) (deep : Int) (y : List lex_Token) (y2 : Int) (y3 : Int) : Option ((Int × Int × List lex_Token × Int × Int) ⊕ (List pred_Node × List lex_Token × Int × Int)) :=
  (s_predtext_parser_deeper_v927 N deep y y2 y3).bind fun x => Sum.elim
  (fun deep2 =>
   some (Sum.inl (deep2.1, deep2.2.1, deep2.2.2.1, deep2.2.2.2.1, deep2.2.2.2.2)))
  (fun deep3 =>
   (s_predtext_parser_eat_v368 N 2 [110, 111, 116] deep3.1 deep3.2.1 deep3.2.2).bind fun eat =>
   bif eat.1 then
    gd (i64b (deep + 1)) (
    (p.2.2 (deep + 1) eat.2.1 eat.2.2.1 eat.2.2.2).bind fun x => Sum.elim
    (fun part =>
     some (Sum.inl (part.1, part.2.1, part.2.2.1, part.2.2.2.1, part.2.2.2.2)))
    (fun part2 =>
     (s_predtext_above N (pred_Node.mk 3 0 [] [] (value_Value.mk 0 0 0 [])) [part2.1]).bind fun abov =>
     some (Sum.inr (abov, part2.2.1, part2.2.2.1, part2.2.2.2))) x)
   else
    (s_predtext_parser_eat_v368 N 4 [40] eat.2.1 eat.2.2.1 eat.2.2.2).bind fun eat2 =>
    bif eat2.1 then
     gd (i64b (deep + 1)) (
     (p.1 (deep + 1) eat2.2.1 eat2.2.2.1 eat2.2.2.2).bind fun x => Sum.elim
     (fun or =>
      some (Sum.inl (or.1, or.2.1, or.2.2.1, or.2.2.2.1, or.2.2.2.2)))
     (fun or2 =>
      (s_predtext_parser_eat_v368 N 4 [41] or2.2.1 or2.2.2.1 or2.2.2.2).bind fun eat3 =>
      bif (!eat3.1) then
       (s_predtext_parser_fail_v927 N 4 eat3.2.1 eat3.2.2.1 eat3.2.2.2).bind fun fail =>
       some (Sum.inl (fail.1, fail.2.1, fail.2.2.1, fail.2.2.2.1, fail.2.2.2.2))
      else
       some (Sum.inr (or2.1, eat3.2.1, eat3.2.2.1, eat3.2.2.2))) x)
    else
     (s_predtext_parser_sum_v424 N eat2.2.1 eat2.2.2.1 eat2.2.2.2).bind fun x => Sum.elim
     (fun sum =>
      some (Sum.inl (sum.1, sum.2.1, sum.2.2.1, sum.2.2.2.1, sum.2.2.2.2)))
     (fun sum2 =>
      (s_predtext_parser_next_v424 N sum2.2.1 sum2.2.2.1 sum2.2.2.2).bind fun vnext =>
      (s_compare_Op N vnext.1.Text).bind fun op =>
      bif (op == 0) then
       (s_predtext_parser_fail_v927 N 4 vnext.2.1 vnext.2.2.1 vnext.2.2.2).bind fun fail2 =>
       some (Sum.inl (fail2.1, fail2.2.1, fail2.2.2.1, fail2.2.2.2.1, fail2.2.2.2.2))
      else
       (s_predtext_parser_take_v128 N 4 vnext.2.1 vnext.2.2.1 vnext.2.2.2).bind fun x => Sum.elim
       (fun take =>
        some (Sum.inl (take.1, take.2.1, take.2.2.1, take.2.2.2.1, take.2.2.2.2)))
       (fun take2 =>
        (s_predtext_parser_sum_v424 N take2.2.1 take2.2.2.1 take2.2.2.2).bind fun x => Sum.elim
        (fun sum3 =>
         some (Sum.inl (sum3.1, sum3.2.1, sum3.2.2.1, sum3.2.2.2.1, sum3.2.2.2.2)))
        (fun sum4 =>
         (s_predtext_above N (pred_Node.mk 4 op [] [] (value_Value.mk 0 0 0 [])) [sum2.1, sum4.1]).bind fun abov2 =>
         some (Sum.inr (abov2, sum4.2.1, sum4.2.2.1, sum4.2.2.2))) x) x) x) x
def SS_predtext_parser_or_v927 (N : Nat) : TS_predtext_parser_or_v927 := Nat.rec (motive := fun _ => TS_predtext_parser_or_v927) ((fun _ _ _ _ => none), (fun _ _ _ _ => none), (fun _ _ _ _ => none)) (fun N p => ((b_predtext_parser_or_v927 N p), (b_predtext_parser_and_v927 N p), (b_predtext_parser_part_v927 N p))) N
def s_predtext_parser_or_v927 (N : Nat) (deep : Int) (y : List lex_Token) (y2 : Int) (y3 : Int) : Option ((Int × Int × List lex_Token × Int × Int) ⊕ (List pred_Node × List lex_Token × Int × Int)) := (SS_predtext_parser_or_v927 N).1 deep y y2 y3
def s_predtext_parser_and_v927 (N : Nat) (deep : Int) (y : List lex_Token) (y2 : Int) (y3 : Int) : Option ((Int × Int × List lex_Token × Int × Int) ⊕ (List pred_Node × List lex_Token × Int × Int)) := (SS_predtext_parser_or_v927 N).2.1 deep y y2 y3
def s_predtext_parser_part_v927 (N : Nat) (deep : Int) (y : List lex_Token) (y2 : Int) (y3 : Int) : Option ((Int × Int × List lex_Token × Int × Int) ⊕ (List pred_Node × List lex_Token × Int × Int)) := (SS_predtext_parser_or_v927 N).2.2 deep y y2 y3
def s_pred_Node_stands (N : Nat) (n : pred_Node) (vwhere : Int) : Option Bool :=
  bif (vwhere == 0) then
   bif (leB 1 n.Kind) then
    some (leB n.Kind 4)
   else
    some false
  else
   bif (vwhere == 1) then
    bif (leB 5 n.Kind) then
     some (leB n.Kind 9)
    else
     some false
   else
    bif (leB 7 n.Kind) then
     some (leB n.Kind 9)
    else
     some false
def s_schema_letter (N : Nat) (c : Int) : Option Bool :=
  bif (leB 97 c) then
   some (leB c 122)
  else
   some false
def s_schema_tail (N : Nat) (c : Int) : Option Bool :=
  (s_schema_letter N c).bind fun lett =>
  bif lett then
   some true
  else
   bif (leB 48 c) then
    bif (leB c 57) then
     some true
    else
     some (c == 95)
   else
    some (c == 95)
def s_schema_Name_1 (N : Nat) (s : List UInt8) (next0 : Int → Option Bool) (i : Int) : Option Bool :=
  bif (ltB i (List.length s : Int)) then
   (ix s i).bind fun c2 =>
   (s_schema_tail N (UInt8.toNat c2 : Int)).bind fun tail =>
   bif (!tail) then
    some false
   else
    gd (i64b (i + 1)) (
    next0 (i + 1))
  else
   some true
def s_schema_Name (N : Nat) (s : List UInt8) : Option Bool :=
  bif (s == []) then
   some false
  else
   bif (ltB 12 (List.length s : Int)) then
    some false
   else
    (ix s 0).bind fun c =>
    (s_schema_letter N (UInt8.toNat c : Int)).bind fun lett =>
    bif (!lett) then
     some false
    else
     (s_schema_Reserved N s).bind fun rese =>
     bif rese then
      some false
     else
      lp1 (s_schema_Name_1 N s) N 1
def s_value_core (N : Nat) (v : value_Value) : Option (Int ⊕ Int ⊕ Int ⊕ (List UInt8) ⊕ Unit) :=
  bif (v.Kind == 1) then
   some (Sum.inl v.N)
  else
   bif (v.Kind == 2) then
    some (Sum.inr (Sum.inl v.N))
   else
    bif (v.Kind == 3) then
     some (Sum.inr (Sum.inr (Sum.inl v.Bits)))
    else
     bif (v.Kind == 4) then
      some (Sum.inr (Sum.inr (Sum.inr (Sum.inl v.Text))))
     else
      some (Sum.inr (Sum.inr (Sum.inr (Sum.inr ()))))
def s_value_number_whole (N : Nat) (n : Int) : Option value_Value :=
  some (value_Value.mk 1 n 0 [])
def s_value_flag_whole (N : Nat) (n : Int) : Option value_Value :=
  some (value_Value.mk 2 n 0 [])
def s_value_double_whole (N : Nat) (u : Int) : Option value_Value :=
  some (value_Value.mk 3 0 u [])
def s_value_words_whole (N : Nat) (s : List UInt8) : Option value_Value :=
  some (value_Value.mk 4 0 0 s)
def s_value_Check (N : Nat) (v : value_Value) : Option Int :=
  (s_value_core N v).bind fun x => Sum.elim
  (fun core =>
   bif (ltB core (-4611686018427387904)) then
    some 8
   else
    bif (ltB 4611686018427387904 core) then
     some 8
    else
     (s_value_number_whole N core).bind fun whol =>
     bif (!((whol.Kind == v.Kind) && ((whol.N == v.N) && ((whol.Bits == v.Bits) && (whol.Text == v.Text))))) then
      some 2
     else
      some 0)
  (Sum.elim
  (fun core2 =>
   bif (core2 != 0) then
    bif (core2 != 1) then
     some 8
    else
     (s_value_flag_whole N core2).bind fun whol2 =>
     bif (!((whol2.Kind == v.Kind) && ((whol2.N == v.N) && ((whol2.Bits == v.Bits) && (whol2.Text == v.Text))))) then
      some 2
     else
      some 0
   else
    (s_value_flag_whole N core2).bind fun whol3 =>
    bif (!((whol3.Kind == v.Kind) && ((whol3.N == v.N) && ((whol3.Bits == v.Bits) && (whol3.Text == v.Text))))) then
     some 2
    else
     some 0)
  (Sum.elim
  (fun core3 =>
   (s_real_Clean N core3).bind fun clea =>
   bif (clea != core3) then
    some 4
   else
    (s_value_double_whole N core3).bind fun whol4 =>
    bif (!((whol4.Kind == v.Kind) && ((whol4.N == v.N) && ((whol4.Bits == v.Bits) && (whol4.Text == v.Text))))) then
     some 2
    else
     some 0)
  (Sum.elim
  (fun core4 =>
   bif (ltB 24 (List.length core4 : Int)) then
    some 5
   else
    (s_value_words_whole N core4).bind fun whol5 =>
    bif (!((whol5.Kind == v.Kind) && ((whol5.N == v.N) && ((whol5.Bits == v.Bits) && (whol5.Text == v.Text))))) then
     some 2
    else
     some 0)
  (fun core5 =>
   some 11)))) x
def s_pred_Node_lacks (N : Nat) (n : pred_Node) : Option Bool :=
  bif (n.Kind == 4) then
   (s_compare_Sign N n.Op).bind fun sign =>
   some (sign == [])
  else
   bif (n.Kind == 7) then
    (s_schema_Name N n.Name).bind fun name =>
    some (!name)
   else
    bif (n.Kind == 8) then
     (s_schema_Name N n.Name).bind fun name2 =>
     bif (!name2) then
      some true
     else
      (s_schema_Name N n.Var).bind fun name3 =>
      some (!name3)
    else
     bif (n.Kind == 9) then
      (s_value_Check N n.Val).bind fun chec =>
      some (chec != 0)
     else
      some false
def s_pred_is_v782 (N : Nat) (n : pred_Node) (e : Int) : Option Int :=
  (s_pred_Node_lacks N n).bind fun lack =>
  bif lack then
   some e
  else
   some 0
def moreZ (v : value_Value) : Bool := (v.Kind == 0) && ((v.N == 0) && ((v.Bits == 0) && (v.Text == [])))
def moreB (n : pred_Node) : Bool :=
  bif n.Kind == 4 then !((n.Var == []) && ((n.Name == []) && moreZ n.Val))
  else bif n.Kind == 7 then !((n.Op == 0) && ((n.Var == []) && moreZ n.Val))
  else bif n.Kind == 8 then !((n.Op == 0) && moreZ n.Val)
  else bif n.Kind == 9 then !((n.Op == 0) && ((n.Var == []) && (n.Name == [])))
  else !((n.Op == 0) && ((n.Var == []) && ((n.Name == []) && moreZ n.Val)))
def s_pred_Node_more (N : Nat) (n : pred_Node) : Option Bool := some (moreB n)
def s_pred_is_v272 (N : Nat) (n : pred_Node) (e : Int) : Option Int :=
  (s_pred_Node_more N n).bind fun more =>
  bif more then
   some e
  else
   some 0
def s_pred_Kids (N : Nat) (kind : Int) : Option Int :=
  bif (kind == 1) then
   bif (kind == 1) then
    some 2
   else
    bif (kind == 3) then
     some 1
    else
     some 0
  else
   bif (kind == 2) then
    bif (kind == 2) then
     some 2
    else
     bif (kind == 3) then
      some 1
     else
      some 0
   else
    bif (kind == 4) then
     bif (kind == 4) then
      some 2
     else
      bif (kind == 3) then
       some 1
      else
       some 0
    else
     bif (kind == 5) then
      bif (kind == 5) then
       some 2
      else
       bif (kind == 3) then
        some 1
       else
        some 0
     else
      bif (kind == 6) then
       some 2
      else
       bif (kind == 3) then
        some 1
       else
        some 0
def s_pred_Node_kid (N : Nat) (n : pred_Node) (which : Int) : Option Int :=
  bif (leB n.Kind 3) then
   some 0
  else
   bif (n.Kind == 4) then
    bif (n.Kind == 4) then
     some 1
    else
     some 2
   else
    bif (which == 0) then
     some 1
    else
     some 2
abbrev TS_pred_checker_tree_v739 : Type := (Int → Int → (List pred_Node) → Int → Option (Int × List pred_Node × Int))
def s_pred_checker_tree_v739_1 (N : Nat) (p : TS_pred_checker_tree_v739) (deep : Int) (kids : Int) (y5 : Int) (y6 : Int) (y7 : List UInt8) (y8 : List UInt8) (y9 : Int) (y10 : Int) (y11 : Int) (y12 : List UInt8) (next0 : Int → (List pred_Node) → Int → Option (Int × List pred_Node × Int)) (x : Int) (y3 : List pred_Node) (y4 : Int) : Option (Int × List pred_Node × Int) :=
  bif (ltB x kids) then
   (s_pred_Node_kid N (pred_Node.mk y5 y6 y7 y8 (value_Value.mk y9 y10 y11 y12)) x).bind fun kid =>
   gd (i64b (deep + 1)) (
   (p kid (deep + 1) y3 y4).bind fun tree =>
   bif (tree.1 != 0) then
    some (tree.1, tree.2.1, tree.2.2)
   else
    gd (i64b (x + 1)) (
    next0 (x + 1) tree.2.1 tree.2.2))
  else
   some (0, y3, y4)
def b_pred_checker_tree_v739 (N : Nat) (p : TS_pred_checker_tree_v739) (vwhere : Int) (deep : Int) (y : List pred_Node) (y2 : Int) : Option (Int × List pred_Node × Int) :=
  bif (leB (List.length y : Int) y2) then
   some (3, y, y2)
  else
   (ix y y2).bind fun e =>
   bif (leB 16 deep) then
    some (15, y, y2)
   else
    (s_pred_Node_stands N e vwhere).bind fun stan =>
    bif (!stan) then
     some (11, y, y2)
    else
     (s_pred_is_v782 N e 4).bind fun is =>
     bif (is != 0) then
      some (is, y, y2)
     else
      (s_pred_is_v272 N e 2).bind fun is2 =>
      bif (is2 != 0) then
       some (is2, y, y2)
      else
       gd (i64b (y2 + 1)) (
       (s_pred_Kids N e.Kind).bind fun kids =>
       lp3 (s_pred_checker_tree_v739_1 N p deep kids e.Kind e.Op e.Var e.Name e.Val.Kind e.Val.N e.Val.Bits e.Val.Text) N 0 y (y2 + 1))
def SS_pred_checker_tree_v739 (N : Nat) : TS_pred_checker_tree_v739 := Nat.rec (motive := fun _ => TS_pred_checker_tree_v739) (fun _ _ _ _ => none) (fun N p => (b_pred_checker_tree_v739 N p)) N
def s_pred_checker_tree_v739 (N : Nat) (vwhere : Int) (deep : Int) (y : List pred_Node) (y2 : Int) : Option (Int × List pred_Node × Int) := (SS_pred_checker_tree_v739 N) vwhere deep y y2
def s_pred_Check (N : Nat) (l : List pred_Node) : Option Int :=
  bif (ltB 30 (List.length l : Int)) then
   some 5
  else
   bif ((List.length l : Int) == 0) then
    some 0
   else
    (s_pred_checker_tree_v739 N 0 0 l 0).bind fun tree =>
    bif (tree.1 != 0) then
     some tree.1
    else
     bif (ltB tree.2.2 (List.length l : Int)) then
      some 5
     else
      some 0
def s_predtext_Parse (N : Nat) (l : List lex_Token) (at_ e : Int) : Option ((List pred_Node × Int) ⊕ (List pred_Node × Int × Int × Int)) :=
  bif ltB at_ 0 then some (.inr ([], 0, 2, 0))
  else bif ltB (l.length : Int) at_ then some (.inr ([], 0, 2, 0))
  else (s_predtext_parser_place_v424 N l at_ e).bind fun x =>
    (s_predtext_parser_or_v927 N 0 x.2.1 x.2.2.1 x.2.2.2).bind fun y => Sum.elim
      (fun p => gd (p.1 != 0) (some (.inr ([], 0, p.1, p.2.1))))
      (fun r => (s_pred_Check N r.1).bind fun c => bif c != 0 then some (.inr ([], 0, c, x.1)) else some (.inl (r.1, r.2.2.1))) y
def s_grammar_reader_atom_v128 (N : Nat) (kind : Int) (y : List lex_Token) (y2 : Int) (y3 : Int) : Option ((List shape_Node × List lex_Token × Int × Int) ⊕ (Int × Int × List lex_Token × Int × Int)) :=
  (s_grammar_reader_name_v424 N y y2 y3).bind fun x => Sum.elim
  (fun name =>
   (s_grammar_reader_must_v368 N 4 [58] name.2.1 name.2.2.1 name.2.2.2).bind fun x => Sum.elim
   (fun must =>
    (s_grammar_reader_name_v424 N must.1 must.2.1 must.2.2).bind fun x => Sum.elim
    (fun name2 =>
     (s_grammar_reader_eat_v368 N 4 [91] name2.2.1 name2.2.2.1 name2.2.2.2).bind fun eat =>
     bif eat.1 then
      (s_predtext_Parse N eat.2.1 eat.2.2.1 eat.2.2.2).bind fun x => Sum.elim
      (fun pars =>
       (s_grammar_stop_n N).bind fun stop =>
       (s_grammar_reader_must_v368 N 4 [93] eat.2.1 pars.2 eat.2.2.2).bind fun x => Sum.elim
       (fun must2 =>
        some (Sum.inl ([(shape_Node.mk kind 0 0 0 name.1 name2.1 pars.1)], must2.1, must2.2.1, must2.2.2)))
       (fun must3 =>
        some (Sum.inr (must3.1, must3.2.1, must3.2.2.1, must3.2.2.2.1, must3.2.2.2.2))) x)
      (fun pars2 =>
       (s_grammar_stop_f N pars2.2.2.1 pars2.2.2.2).bind fun stop2 =>
       some (Sum.inr (stop2.1, stop2.2, eat.2.1, eat.2.2.1, eat.2.2.2))) x
     else
      some (Sum.inl ([(shape_Node.mk kind 0 0 0 name.1 name2.1 [])], eat.2.1, eat.2.2.1, eat.2.2.2)))
    (fun name3 =>
     some (Sum.inr (name3.1, name3.2.1, name3.2.2.1, name3.2.2.2.1, name3.2.2.2.2))) x)
   (fun must4 =>
    some (Sum.inr (must4.1, must4.2.1, must4.2.2.1, must4.2.2.2.1, must4.2.2.2.2))) x)
  (fun name4 =>
   some (Sum.inr (name4.1, name4.2.1, name4.2.2.1, name4.2.2.2.1, name4.2.2.2.2))) x
def s_grammar_reader_number_v424 (N : Nat) (y : List lex_Token) (y2 : Int) (y3 : Int) : Option ((Int × List lex_Token × Int × Int) ⊕ (Int × Int × List lex_Token × Int × Int)) :=
  bif (leB (List.length y : Int) y2) then
   (s_grammar_reader_fail_v927 N 4 y y2 y3).bind fun x => Sum.elim
   (fun fail =>
    gd (i64b (fail.2.1 + 1)) (
    gd (i64b ((fail.2.1 + 1) - 1)) (
    (ix fail.1 ((fail.2.1 + 1) - 1)).bind fun e =>
    some (Sum.inl (e.Val.N, fail.1, (fail.2.1 + 1), fail.2.2)))))
   (fun fail2 =>
    some (Sum.inr (fail2.1, fail2.2.1, fail2.2.2.1, fail2.2.2.2.1, fail2.2.2.2.2))) x
  else
   (ix y y2).bind fun e2 =>
   bif (e2.Kind != 3) then
    (s_grammar_reader_fail_v927 N 4 y y2 y3).bind fun x => Sum.elim
    (fun fail3 =>
     gd (i64b (fail3.2.1 + 1)) (
     gd (i64b ((fail3.2.1 + 1) - 1)) (
     (ix fail3.1 ((fail3.2.1 + 1) - 1)).bind fun e3 =>
     some (Sum.inl (e3.Val.N, fail3.1, (fail3.2.1 + 1), fail3.2.2)))))
    (fun fail4 =>
     some (Sum.inr (fail4.1, fail4.2.1, fail4.2.2.1, fail4.2.2.2.1, fail4.2.2.2.2))) x
   else
    (ix y y2).bind fun e4 =>
    bif (e4.Val.Kind != 1) then
     (s_grammar_reader_fail_v927 N 4 y y2 y3).bind fun x => Sum.elim
     (fun fail5 =>
      gd (i64b (fail5.2.1 + 1)) (
      gd (i64b ((fail5.2.1 + 1) - 1)) (
      (ix fail5.1 ((fail5.2.1 + 1) - 1)).bind fun e5 =>
      some (Sum.inl (e5.Val.N, fail5.1, (fail5.2.1 + 1), fail5.2.2)))))
     (fun fail6 =>
      some (Sum.inr (fail6.1, fail6.2.1, fail6.2.2.1, fail6.2.2.2.1, fail6.2.2.2.2))) x
    else
     gd (i64b (y2 + 1)) (
     gd (i64b ((y2 + 1) - 1)) (
     (ix y ((y2 + 1) - 1)).bind fun e6 =>
     some (Sum.inl (e6.Val.N, y, (y2 + 1), y3))))
def s_grammar_reader_counted_v424 (N : Nat) (y : List lex_Token) (y2 : Int) (y3 : Int) : Option ((Int × Int × List lex_Token × Int × Int) ⊕ (Int × Int × List lex_Token × Int × Int)) :=
  (s_grammar_reader_number_v424 N y y2 y3).bind fun x => Sum.elim
  (fun numb =>
   (s_grammar_reader_eat_v368 N 4 [44] numb.2.1 numb.2.2.1 numb.2.2.2).bind fun eat =>
   bif eat.1 then
    (s_grammar_reader_peek_v368 N 4 [125] eat.2.1 eat.2.2.1 eat.2.2.2).bind fun peek =>
    bif (!peek.1) then
     (s_grammar_reader_number_v424 N peek.2.1 peek.2.2.1 peek.2.2.2).bind fun x => Sum.elim
     (fun numb2 =>
      (s_grammar_reader_must_v368 N 4 [125] numb2.2.1 numb2.2.2.1 numb2.2.2.2).bind fun x => Sum.elim
      (fun must =>
       some (Sum.inl (numb.1, numb2.1, must.1, must.2.1, must.2.2)))
      (fun must2 =>
       some (Sum.inr (must2.1, must2.2.1, must2.2.2.1, must2.2.2.2.1, must2.2.2.2.2))) x)
     (fun numb3 =>
      some (Sum.inr (numb3.1, numb3.2.1, numb3.2.2.1, numb3.2.2.2.1, numb3.2.2.2.2))) x
    else
     (s_grammar_reader_must_v368 N 4 [125] peek.2.1 peek.2.2.1 peek.2.2.2).bind fun x => Sum.elim
     (fun must3 =>
      some (Sum.inl (numb.1, 0, must3.1, must3.2.1, must3.2.2)))
     (fun must4 =>
      some (Sum.inr (must4.1, must4.2.1, must4.2.2.1, must4.2.2.2.1, must4.2.2.2.2))) x
   else
    (s_grammar_reader_must_v368 N 4 [125] eat.2.1 eat.2.2.1 eat.2.2.2).bind fun x => Sum.elim
    (fun must5 =>
     some (Sum.inl (numb.1, numb.1, must5.1, must5.2.1, must5.2.2)))
    (fun must6 =>
     some (Sum.inr (must6.1, must6.2.1, must6.2.2.1, must6.2.2.2.1, must6.2.2.2.2))) x)
  (fun numb4 =>
   some (Sum.inr (numb4.1, numb4.2.1, numb4.2.2.1, numb4.2.2.2.1, numb4.2.2.2.2))) x
def s_grammar_reader_often_v615 (N : Nat) (part : List shape_Node) (y : List lex_Token) (y2 : Int) (y3 : Int) : Option ((List shape_Node × List lex_Token × Int × Int) ⊕ (Int × Int × List lex_Token × Int × Int)) :=
  (s_grammar_reader_eat_v368 N 4 [43] y y2 y3).bind fun eat =>
  bif eat.1 then
   gd (Nat.ble ((1 + List.length part) * 88) 140737488355328) (
   some (Sum.inl (((shape_Node.mk 3 1 1 0 [] [] []) :: part), eat.2.1, eat.2.2.1, eat.2.2.2)))
  else
   (s_grammar_reader_eat_v368 N 4 [42] eat.2.1 eat.2.2.1 eat.2.2.2).bind fun eat2 =>
   bif eat2.1 then
    gd (Nat.ble ((1 + List.length part) * 88) 140737488355328) (
    some (Sum.inl (((shape_Node.mk 3 1 0 0 [] [] []) :: part), eat2.2.1, eat2.2.2.1, eat2.2.2.2)))
   else
    (s_grammar_reader_eat_v368 N 4 [63] eat2.2.1 eat2.2.2.1 eat2.2.2.2).bind fun eat3 =>
    bif eat3.1 then
     gd (Nat.ble ((1 + List.length part) * 88) 140737488355328) (
     some (Sum.inl (((shape_Node.mk 3 1 0 1 [] [] []) :: part), eat3.2.1, eat3.2.2.1, eat3.2.2.2)))
    else
     (s_grammar_reader_eat_v368 N 4 [123] eat3.2.1 eat3.2.2.1 eat3.2.2.2).bind fun eat4 =>
     bif eat4.1 then
      (s_grammar_reader_counted_v424 N eat4.2.1 eat4.2.2.1 eat4.2.2.2).bind fun x => Sum.elim
      (fun coun =>
       gd (Nat.ble ((1 + List.length part) * 88) 140737488355328) (
       some (Sum.inl (((shape_Node.mk 3 1 coun.1 coun.2.1 [] [] []) :: part), coun.2.2.1, coun.2.2.2.1, coun.2.2.2.2))))
      (fun coun2 =>
       some (Sum.inr (coun2.1, coun2.2.1, coun2.2.2.1, coun2.2.2.2.1, coun2.2.2.2.2))) x
     else
      some (Sum.inl (part, eat4.2.1, eat4.2.2.1, eat4.2.2.2))
def s_grammar_reader_list_L1_v824 (N : Nat) (l : List shape_Node) (y : Int) (xs : List shape_Node) : Option (Int × List shape_Node) :=
  (ix l 0).bind fun e =>
  bif (e.Kind == y) then
   (ix xs 0).bind fun e2 =>
   (ix xs 0).bind fun e3 =>
   (ix l 0).bind fun e4 =>
   gd (i64b (e3.Kids + e4.Kids)) (
   (ix xs 0).bind fun e5 =>
   (ix xs 0).bind fun e6 =>
   gd (leB 1 (List.length l : Int)) (
   gd (Nat.ble ((List.length (List.set xs 0 (shape_Node.mk e6.Kind (e3.Kids + e4.Kids) e6.Lo e6.Hi e6.Var e6.Type_ e6.Test)) + List.length (List.drop 1 l)) * 88) 140737488355328) (
   some (y, ((List.set xs 0 (shape_Node.mk e6.Kind (e3.Kids + e4.Kids) e6.Lo e6.Hi e6.Var e6.Type_ e6.Test)) ++ (List.drop 1 l))))))
  else
   (ix xs 0).bind fun e7 =>
   (ix xs 0).bind fun e8 =>
   gd (i64b (e8.Kids + 1)) (
   (ix xs 0).bind fun e9 =>
   (ix xs 0).bind fun e10 =>
   gd (Nat.ble ((List.length (List.set xs 0 (shape_Node.mk e10.Kind (e8.Kids + 1) e10.Lo e10.Hi e10.Var e10.Type_ e10.Test)) + List.length l) * 88) 140737488355328) (
   some (y, ((List.set xs 0 (shape_Node.mk e10.Kind (e8.Kids + 1) e10.Lo e10.Hi e10.Var e10.Type_ e10.Test)) ++ l))))
abbrev TS_grammar_reader_body_v927 : Type := (Int → (List lex_Token) → Int → Int → Option ((List shape_Node × List lex_Token × Int × Int) ⊕ (Int × Int × List lex_Token × Int × Int))) × (Int → (List UInt8) → Int → (List lex_Token) → Int → Int → Option ((List shape_Node × List lex_Token × Int × Int) ⊕ (Int × Int × List lex_Token × Int × Int))) × (Int → (List lex_Token) → Int → Int → Option ((List shape_Node × List lex_Token × Int × Int) ⊕ (Int × Int × List lex_Token × Int × Int))) × (Int → (List UInt8) → Int → (List lex_Token) → Int → Int → Option ((List shape_Node × List lex_Token × Int × Int) ⊕ (Int × Int × List lex_Token × Int × Int))) × (Int → (List lex_Token) → Int → Int → Option ((List shape_Node × List lex_Token × Int × Int) ⊕ (Int × Int × List lex_Token × Int × Int)))
def b_grammar_reader_body_v927 (N : Nat) (p : TS_grammar_reader_body_v927) (deep : Int) (y : List lex_Token) (y2 : Int) (y3 : Int) : Option ((List shape_Node × List lex_Token × Int × Int) ⊕ (Int × Int × List lex_Token × Int × Int)) :=
  (p.2.1 2 [124] deep y y2 y3).bind fun x => Sum.elim
  (fun list =>
   some (Sum.inl (list.1, list.2.1, list.2.2.1, list.2.2.2)))
  (fun list2 =>
   some (Sum.inr (list2.1, list2.2.1, list2.2.2.1, list2.2.2.2.1, list2.2.2.2.2))) x
def s_grammar_reader_list_v946_1 (N : Nat) (p : TS_grammar_reader_body_v927) (between : List UInt8) (deep : Int) (next0 : (List lex_Token) → Int → Int → Int → (List shape_Node) → Option ((List shape_Node × List lex_Token × Int × Int) ⊕ (Int × Int × List lex_Token × Int × Int))) (y4 : List lex_Token) (y5 : Int) (y6 : Int) (y7 : Int) (ys : List shape_Node) : Option ((List shape_Node × List lex_Token × Int × Int) ⊕ (Int × Int × List lex_Token × Int × Int)) :=
  (s_grammar_reader_eat_v368 N 4 between y4 y5 y6).bind fun eat =>
  bif eat.1 then
   (p.2.2.1 deep eat.2.1 eat.2.2.1 eat.2.2.2).bind fun x => Sum.elim
   (fun bran2 =>
    (s_grammar_reader_list_L1_v824 N bran2.1 y7 ys).bind fun l2 =>
    next0 bran2.2.1 bran2.2.2.1 bran2.2.2.2 l2.1 l2.2)
   (fun bran3 =>
    some (Sum.inr (bran3.1, bran3.2.1, bran3.2.2.1, bran3.2.2.2.1, bran3.2.2.2.2))) x
  else
   some (Sum.inl (ys, eat.2.1, eat.2.2.1, eat.2.2.2))
def b_grammar_reader_list_v946 (N : Nat) (p : TS_grammar_reader_body_v927) (kind : Int) (between : List UInt8) (deep : Int) (y : List lex_Token) (y2 : Int) (y3 : Int) : Option ((List shape_Node × List lex_Token × Int × Int) ⊕ (Int × Int × List lex_Token × Int × Int)) :=
  (p.2.2.1 deep y y2 y3).bind fun x => Sum.elim
  (fun bran =>
   (s_grammar_reader_peek_v368 N 4 between bran.2.1 bran.2.2.1 bran.2.2.2).bind fun peek =>
   bif (!peek.1) then
    some (Sum.inl (bran.1, peek.2.1, peek.2.2.1, peek.2.2.2))
   else
    (s_grammar_reader_list_L1_v824 N bran.1 kind [(shape_Node.mk kind 0 0 0 [] [] [])]).bind fun l =>
    lp5 (s_grammar_reader_list_v946_1 N p between deep) N peek.2.1 peek.2.2.1 peek.2.2.2 l.1 l.2)
  (fun bran4 =>
   some (Sum.inr (bran4.1, bran4.2.1, bran4.2.2.1, bran4.2.2.2.1, bran4.2.2.2.2))) x
def b_grammar_reader_branch_v927 (N : Nat) (p : TS_grammar_reader_body_v927) (deep : Int) (y : List lex_Token) (y2 : Int) (y3 : Int) : Option ((List shape_Node × List lex_Token × Int × Int) ⊕ (Int × Int × List lex_Token × Int × Int)) :=
  (p.2.2.2.1 1 [59] deep y y2 y3).bind fun x => Sum.elim
  (fun list =>
   some (Sum.inl (list.1, list.2.1, list.2.2.1, list.2.2.2)))
  (fun list2 =>
   some (Sum.inr (list2.1, list2.2.1, list2.2.2.1, list2.2.2.2.1, list2.2.2.2.2))) x
def s_grammar_reader_list_v624_1 (N : Nat) (p : TS_grammar_reader_body_v927) (between : List UInt8) (deep : Int) (next0 : (List lex_Token) → Int → Int → Int → (List shape_Node) → Option ((List shape_Node × List lex_Token × Int × Int) ⊕ (Int × Int × List lex_Token × Int × Int))) (y4 : List lex_Token) (y5 : Int) (y6 : Int) (y7 : Int) (ys : List shape_Node) : Option ((List shape_Node × List lex_Token × Int × Int) ⊕ (Int × Int × List lex_Token × Int × Int)) :=
  (s_grammar_reader_eat_v368 N 4 between y4 y5 y6).bind fun eat =>
  bif eat.1 then
   (p.2.2.2.2 deep eat.2.1 eat.2.2.1 eat.2.2.2).bind fun x => Sum.elim
   (fun item2 =>
    (s_grammar_reader_list_L1_v824 N item2.1 y7 ys).bind fun l2 =>
    next0 item2.2.1 item2.2.2.1 item2.2.2.2 l2.1 l2.2)
   (fun item3 =>
    some (Sum.inr (item3.1, item3.2.1, item3.2.2.1, item3.2.2.2.1, item3.2.2.2.2))) x
  else
   some (Sum.inl (ys, eat.2.1, eat.2.2.1, eat.2.2.2))
def b_grammar_reader_list_v624 (N : Nat) (p : TS_grammar_reader_body_v927) (kind : Int) (between : List UInt8) (deep : Int) (y : List lex_Token) (y2 : Int) (y3 : Int) : Option ((List shape_Node × List lex_Token × Int × Int) ⊕ (Int × Int × List lex_Token × Int × Int)) :=
  (p.2.2.2.2 deep y y2 y3).bind fun x => Sum.elim
  (fun item =>
   (s_grammar_reader_peek_v368 N 4 between item.2.1 item.2.2.1 item.2.2.2).bind fun peek =>
   bif (!peek.1) then
    some (Sum.inl (item.1, peek.2.1, peek.2.2.1, peek.2.2.2))
   else
    (s_grammar_reader_list_L1_v824 N item.1 kind [(shape_Node.mk kind 0 0 0 [] [] [])]).bind fun l =>
    lp5 (s_grammar_reader_list_v624_1 N p between deep) N peek.2.1 peek.2.2.1 peek.2.2.2 l.1 l.2)
  (fun item4 =>
   some (Sum.inr (item4.1, item4.2.1, item4.2.2.1, item4.2.2.2.1, item4.2.2.2.2))) x
def b_grammar_reader_item_v927 (N : Nat) (p : TS_grammar_reader_body_v927) (deep : Int) (y : List lex_Token) (y2 : Int) (y3 : Int) : Option ((List shape_Node × List lex_Token × Int × Int) ⊕ (Int × Int × List lex_Token × Int × Int)) :=
  (s_grammar_reader_eat_v368 N 4 [33] y y2 y3).bind fun eat =>
  bif eat.1 then
   (s_grammar_reader_atom_v128 N 5 eat.2.1 eat.2.2.1 eat.2.2.2).bind fun x => Sum.elim
   (fun atom =>
    some (Sum.inl (atom.1, atom.2.1, atom.2.2.1, atom.2.2.2)))
   (fun atom2 =>
    some (Sum.inr (atom2.1, atom2.2.1, atom2.2.2.1, atom2.2.2.2.1, atom2.2.2.2.2))) x
  else
   (s_grammar_reader_peek_v368 N 4 [40] eat.2.1 eat.2.2.1 eat.2.2.2).bind fun peek =>
   bif (!peek.1) then
    (s_grammar_reader_atom_v128 N 4 peek.2.1 peek.2.2.1 peek.2.2.2).bind fun x => Sum.elim
    (fun atom3 =>
     (s_grammar_reader_often_v615 N atom3.1 atom3.2.1 atom3.2.2.1 atom3.2.2.2).bind fun x => Sum.elim
     (fun ofte =>
      some (Sum.inl (ofte.1, ofte.2.1, ofte.2.2.1, ofte.2.2.2)))
     (fun ofte2 =>
      some (Sum.inr (ofte2.1, ofte2.2.1, ofte2.2.2.1, ofte2.2.2.2.1, ofte2.2.2.2.2))) x)
    (fun atom4 =>
     some (Sum.inr (atom4.1, atom4.2.1, atom4.2.2.1, atom4.2.2.2.1, atom4.2.2.2.2))) x
   else
    bif (leB 16 deep) then
     (s_grammar_reader_fail_v927 N 15 peek.2.1 peek.2.2.1 peek.2.2.2).bind fun x => Sum.elim
     (fun fail =>
      gd (i64b (fail.2.1 + 1)) (
      gd (i64b (deep + 1)) (
      (p.1 (deep + 1) fail.1 (fail.2.1 + 1) fail.2.2).bind fun x => Sum.elim
      (fun body =>
       (s_grammar_reader_must_v368 N 4 [41] body.2.1 body.2.2.1 body.2.2.2).bind fun x => Sum.elim
       (fun must =>
        (s_grammar_reader_often_v615 N body.1 must.1 must.2.1 must.2.2).bind fun x => Sum.elim
        (fun ofte3 =>
         some (Sum.inl (ofte3.1, ofte3.2.1, ofte3.2.2.1, ofte3.2.2.2)))
        (fun ofte4 =>
         some (Sum.inr (ofte4.1, ofte4.2.1, ofte4.2.2.1, ofte4.2.2.2.1, ofte4.2.2.2.2))) x)
       (fun must2 =>
        some (Sum.inr (must2.1, must2.2.1, must2.2.2.1, must2.2.2.2.1, must2.2.2.2.2))) x)
      (fun body2 =>
       some (Sum.inr (body2.1, body2.2.1, body2.2.2.1, body2.2.2.2.1, body2.2.2.2.2))) x)))
     (fun fail2 =>
      some (Sum.inr (fail2.1, fail2.2.1, fail2.2.2.1, fail2.2.2.2.1, fail2.2.2.2.2))) x
    else
     gd (i64b (peek.2.2.1 + 1)) (
     gd (i64b (deep + 1)) (
     (p.1 (deep + 1) peek.2.1 (peek.2.2.1 + 1) peek.2.2.2).bind fun x => Sum.elim
     (fun body3 =>
      (s_grammar_reader_must_v368 N 4 [41] body3.2.1 body3.2.2.1 body3.2.2.2).bind fun x => Sum.elim
      (fun must3 =>
       (s_grammar_reader_often_v615 N body3.1 must3.1 must3.2.1 must3.2.2).bind fun x => Sum.elim
       (fun ofte5 =>
        some (Sum.inl (ofte5.1, ofte5.2.1, ofte5.2.2.1, ofte5.2.2.2)))
       (fun ofte6 =>
        some (Sum.inr (ofte6.1, ofte6.2.1, ofte6.2.2.1, ofte6.2.2.2.1, ofte6.2.2.2.2))) x)
      (fun must4 =>
       some (Sum.inr (must4.1, must4.2.1, must4.2.2.1, must4.2.2.2.1, must4.2.2.2.2))) x)
     (fun body4 =>
      some (Sum.inr (body4.1, body4.2.1, body4.2.2.1, body4.2.2.2.1, body4.2.2.2.2))) x))
def SS_grammar_reader_body_v927 (N : Nat) : TS_grammar_reader_body_v927 := Nat.rec (motive := fun _ => TS_grammar_reader_body_v927) ((fun _ _ _ _ => none), (fun _ _ _ _ _ _ => none), (fun _ _ _ _ => none), (fun _ _ _ _ _ _ => none), (fun _ _ _ _ => none)) (fun N p => ((b_grammar_reader_body_v927 N p), (b_grammar_reader_list_v946 N p), (b_grammar_reader_branch_v927 N p), (b_grammar_reader_list_v624 N p), (b_grammar_reader_item_v927 N p))) N
def s_grammar_reader_body_v927 (N : Nat) (deep : Int) (y : List lex_Token) (y2 : Int) (y3 : Int) : Option ((List shape_Node × List lex_Token × Int × Int) ⊕ (Int × Int × List lex_Token × Int × Int)) := (SS_grammar_reader_body_v927 N).1 deep y y2 y3
def s_grammar_reader_list_v946 (N : Nat) (kind : Int) (between : List UInt8) (deep : Int) (y : List lex_Token) (y2 : Int) (y3 : Int) : Option ((List shape_Node × List lex_Token × Int × Int) ⊕ (Int × Int × List lex_Token × Int × Int)) := (SS_grammar_reader_body_v927 N).2.1 kind between deep y y2 y3
def s_grammar_reader_branch_v927 (N : Nat) (deep : Int) (y : List lex_Token) (y2 : Int) (y3 : Int) : Option ((List shape_Node × List lex_Token × Int × Int) ⊕ (Int × Int × List lex_Token × Int × Int)) := (SS_grammar_reader_body_v927 N).2.2.1 deep y y2 y3
def s_grammar_reader_list_v624 (N : Nat) (kind : Int) (between : List UInt8) (deep : Int) (y : List lex_Token) (y2 : Int) (y3 : Int) : Option ((List shape_Node × List lex_Token × Int × Int) ⊕ (Int × Int × List lex_Token × Int × Int)) := (SS_grammar_reader_body_v927 N).2.2.2.1 kind between deep y y2 y3
def s_grammar_reader_item_v927 (N : Nat) (deep : Int) (y : List lex_Token) (y2 : Int) (y3 : Int) : Option ((List shape_Node × List lex_Token × Int × Int) ⊕ (Int × Int × List lex_Token × Int × Int)) := (SS_grammar_reader_body_v927 N).2.2.2.2 deep y y2 y3
def s_shape_Word (N : Nat) (mode : Int) : Option (List UInt8) :=
  bif (mode == 1) then
   some [97, 110, 121]
  else
   bif (mode == 2) then
    some [110, 101, 120, 116]
   else
    bif (mode == 3) then
     some [115, 116, 114, 105, 99, 116]
    else
     some []
def s_grammar_reader_mode_v424_1 (N : Nat) (next0 : Int → (List lex_Token) → Int → Int → Option ((Int × List lex_Token × Int × Int) ⊕ (Int × Int × List lex_Token × Int × Int))) (m : Int) (y4 : List lex_Token) (y5 : Int) (y6 : Int) : Option ((Int × List lex_Token × Int × Int) ⊕ (Int × Int × List lex_Token × Int × Int)) :=
  bif (leB m 3) then
   (s_shape_Word N m).bind fun word =>
   (s_grammar_reader_eat_v368 N 2 word y4 y5 y6).bind fun eat =>
   bif eat.1 then
    some (Sum.inl (m, eat.2.1, eat.2.2.1, eat.2.2.2))
   else
    next0 (IntKind.u8.wrap (m + 1)) eat.2.1 eat.2.2.1 eat.2.2.2
  else
   (s_grammar_reader_fail_v927 N 4 y4 y5 y6).bind fun x => Sum.elim
   (fun fail =>
    some (Sum.inl (0, fail.1, fail.2.1, fail.2.2)))
   (fun fail2 =>
    some (Sum.inr (fail2.1, fail2.2.1, fail2.2.2.1, fail2.2.2.2.1, fail2.2.2.2.2))) x
def s_grammar_reader_mode_v424 (N : Nat) (y : List lex_Token) (y2 : Int) (y3 : Int) : Option ((Int × List lex_Token × Int × Int) ⊕ (Int × Int × List lex_Token × Int × Int)) :=
  lp4 (s_grammar_reader_mode_v424_1 N) N 1 y y2 y3
def s_grammar_reader_patternB_v424 (N : Nat) (y : List lex_Token) (y2 : Int) (y3 : Int) : Option ((shape_Pattern × List lex_Token × Int × Int) ⊕ (Int × Int × List lex_Token × Int × Int)) :=
  (s_grammar_reader_body_v927 N 0 y y2 y3).bind fun x => Sum.elim
  (fun body =>
   (s_grammar_reader_must_v368 N 2 [119, 105, 116, 104, 105, 110] body.2.1 body.2.2.1 body.2.2.2).bind fun x => Sum.elim
   (fun must =>
    (s_grammar_reader_number_v424 N must.1 must.2.1 must.2.2).bind fun x => Sum.elim
    (fun numb =>
     (s_grammar_reader_eat_v368 N 2 [98, 121] numb.2.1 numb.2.2.1 numb.2.2.2).bind fun eat =>
     bif eat.1 then
      (s_grammar_reader_name_v424 N eat.2.1 eat.2.2.1 eat.2.2.2).bind fun x => Sum.elim
      (fun name =>
       (s_grammar_reader_mode_v424 N name.2.1 name.2.2.1 name.2.2.2).bind fun x => Sum.elim
       (fun mode =>
        bif (ltB mode.2.2.1 (List.length mode.2.1 : Int)) then
         (s_grammar_reader_fail_v927 N 4 mode.2.1 mode.2.2.1 mode.2.2.2).bind fun x => Sum.elim
         (fun fail =>
          some (Sum.inl ((shape_Pattern.mk body.1 numb.1 name.1 mode.1), fail.1, fail.2.1, fail.2.2)))
         (fun fail2 =>
          some (Sum.inr (fail2.1, fail2.2.1, fail2.2.2.1, fail2.2.2.2.1, fail2.2.2.2.2))) x
        else
         some (Sum.inl ((shape_Pattern.mk body.1 numb.1 name.1 mode.1), mode.2.1, mode.2.2.1, mode.2.2.2)))
       (fun mode2 =>
        some (Sum.inr (mode2.1, mode2.2.1, mode2.2.2.1, mode2.2.2.2.1, mode2.2.2.2.2))) x)
      (fun name2 =>
       some (Sum.inr (name2.1, name2.2.1, name2.2.2.1, name2.2.2.2.1, name2.2.2.2.2))) x
     else
      (s_grammar_reader_mode_v424 N eat.2.1 eat.2.2.1 eat.2.2.2).bind fun x => Sum.elim
      (fun mode3 =>
       bif (ltB mode3.2.2.1 (List.length mode3.2.1 : Int)) then
        (s_grammar_reader_fail_v927 N 4 mode3.2.1 mode3.2.2.1 mode3.2.2.2).bind fun x => Sum.elim
        (fun fail3 =>
         some (Sum.inl ((shape_Pattern.mk body.1 numb.1 [] mode3.1), fail3.1, fail3.2.1, fail3.2.2)))
        (fun fail4 =>
         some (Sum.inr (fail4.1, fail4.2.1, fail4.2.2.1, fail4.2.2.2.1, fail4.2.2.2.2))) x
       else
        some (Sum.inl ((shape_Pattern.mk body.1 numb.1 [] mode3.1), mode3.2.1, mode3.2.2.1, mode3.2.2.2)))
      (fun mode4 =>
       some (Sum.inr (mode4.1, mode4.2.1, mode4.2.2.1, mode4.2.2.2.1, mode4.2.2.2.2))) x)
    (fun numb2 =>
     some (Sum.inr (numb2.1, numb2.2.1, numb2.2.2.1, numb2.2.2.2.1, numb2.2.2.2.2))) x)
   (fun must2 =>
    some (Sum.inr (must2.1, must2.2.1, must2.2.2.1, must2.2.2.2.1, must2.2.2.2.2))) x)
  (fun body2 =>
   some (Sum.inr (body2.1, body2.2.1, body2.2.2.1, body2.2.2.2.1, body2.2.2.2.2))) x
def s_grammar_reader_pattern_v424 (N : Nat) (y : List lex_Token) (y2 : Int) (y3 : Int) : Option ((shape_Pattern × List lex_Token × Int × Int) ⊕ (shape_Pattern × Int × Int × List lex_Token × Int × Int)) :=
  (s_grammar_reader_patternB_v424 N y y2 y3).bind fun x => Sum.elim (fun r => some (Sum.inl r)) (fun f => some (Sum.inr (shape_Pattern.mk [] 0 [] 0, f))) x
def s_shape_Node_list (N : Nat) (n : shape_Node) : Option Bool :=
  bif (n.Kind == 1) then
   some true
  else
   some (n.Kind == 2)
def s_shape_Node_stands (N : Nat) (n : shape_Node) (above : Int) : Option Bool :=
  bif (ltB n.Kind 1) then
   some false
  else
   bif (ltB 5 n.Kind) then
    some false
   else
    (s_shape_Node_list N n).bind fun list =>
    bif list then
     some (n.Kind != above)
    else
     bif (n.Kind != 5) then
      some true
     else
      some (above != 3)
def s_shape_Node_often (N : Nat) (n : shape_Node) : Option Bool :=
  bif (ltB n.Lo 0) then
   some false
  else
   bif (ltB 8 n.Lo) then
    some false
   else
    bif (ltB n.Hi 0) then
     some false
    else
     bif (ltB 8 n.Hi) then
      some false
     else
      bif (n.Lo == 1) then
       bif (n.Hi == 1) then
        some false
       else
        bif (n.Hi == 0) then
         some true
        else
         some (leB n.Lo n.Hi)
      else
       bif (n.Hi == 0) then
        some true
       else
        some (leB n.Lo n.Hi)
def s_shape_Node_lacks (N : Nat) (n : shape_Node) : Option Bool :=
  (s_shape_Node_list N n).bind fun list =>
  bif list then
   bif (ltB n.Kids 2) then
    some true
   else
    some (ltB 40 n.Kids)
  else
   bif (n.Kind == 3) then
    bif (n.Kids != 1) then
     some true
    else
     (s_shape_Node_often N n).bind fun ofte =>
     some (!ofte)
   else
    (s_schema_Name N n.Var).bind fun name =>
    bif (!name) then
     some true
    else
     (s_schema_Name N n.Type_).bind fun name2 =>
     bif (!name2) then
      some true
     else
      (s_pred_Check N n.Test).bind fun chec =>
      some (chec != 0)
def s_shape_Node_leaf (N : Nat) (n : shape_Node) : Option Bool :=
  bif (n.Kind == 4) then
   some true
  else
   some (n.Kind == 5)
def s_shape_Node_more (N : Nat) (n : shape_Node) : Option Bool :=
  bif (n.Lo != 0) then
   bif (!(n.Var == [])) then
    (s_shape_Node_leaf N n).bind fun leaf =>
    bif leaf then
     some true
    else
     some true
   else
    bif (!(n.Type_ == [])) then
     (s_shape_Node_leaf N n).bind fun leaf2 =>
     bif leaf2 then
      some true
     else
      some true
    else
     (s_shape_Node_leaf N n).bind fun leaf3 =>
     bif leaf3 then
      some true
     else
      bif (ltB 0 (List.length n.Test : Int)) then
       some true
      else
       some (n.Kind != 3)
  else
   bif (!(n.Var == [])) then
    (s_shape_Node_leaf N n).bind fun leaf4 =>
    bif leaf4 then
     bif (n.Hi != 0) then
      some true
     else
      some (n.Kids != 0)
    else
     some true
   else
    bif (!(n.Type_ == [])) then
     (s_shape_Node_leaf N n).bind fun leaf5 =>
     bif leaf5 then
      bif (n.Hi != 0) then
       some true
      else
       some (n.Kids != 0)
     else
      some true
    else
     (s_shape_Node_leaf N n).bind fun leaf6 =>
     bif leaf6 then
      bif (n.Hi != 0) then
       some true
      else
       some (n.Kids != 0)
     else
      bif (ltB 0 (List.length n.Test : Int)) then
       some true
      else
       bif (n.Hi != 0) then
        some (n.Kind != 3)
       else
        some false
def s_shape_Node_kids (N : Nat) (n : shape_Node) : Option Int :=
  (s_shape_Node_list N n).bind fun list =>
  bif list then
   some (max 0 (min n.Kids 40))
  else
   bif (n.Kind == 3) then
    some 1
   else
    some 0
abbrev TS_shape_tree : Type := ((List shape_Node) → Int → Int → Option (List shape_Node × Int))
def s_shape_tree_1 (N : Nat) (p : TS_shape_tree) (deep : Int) (kids : Int) (y : Int) (next1 : (List shape_Node) → Int → Option (List shape_Node × Int)) (rest : List shape_Node) (x : Int) : Option (List shape_Node × Int) :=
  bif (ltB x kids) then
   gd (i64b (deep + 1)) (
   (p rest y (deep + 1)).bind fun tree =>
   bif (tree.2 != 0) then
    some ([], tree.2)
   else
    gd (i64b (x + 1)) (
    next1 tree.1 (x + 1)))
  else
   some (rest, 0)
def b_shape_tree (N : Nat) (p : TS_shape_tree) (l : List shape_Node) (above : Int) (deep : Int) : Option (List shape_Node × Int) :=
  bif ((List.length l : Int) == 0) then
   some ([], 3)
  else
   bif (leB 16 deep) then
    some ([], 15)
   else
    (ix l 0).bind fun e =>
    (s_shape_Node_stands N e above).bind fun stan =>
    bif (!stan) then
     some ([], 11)
    else
     (ix l 0).bind fun e2 =>
     (s_shape_Node_lacks N e2).bind fun lack =>
     bif lack then
      some ([], 4)
     else
      (ix l 0).bind fun e3 =>
      (s_shape_Node_more N e3).bind fun more =>
      bif more then
       some ([], 2)
      else
       (ix l 0).bind fun e4 =>
       gd (leB 1 (List.length l : Int)) (
       (s_shape_Node_kids N e4).bind fun kids =>
       lp2 (s_shape_tree_1 N p deep kids e4.Kind) N (List.drop 1 l) 0)
def SS_shape_tree (N : Nat) : TS_shape_tree := Nat.rec (motive := fun _ => TS_shape_tree) (fun _ _ _ => none) (fun N p => (b_shape_tree N p)) N
def s_shape_tree (N : Nat) (l : List shape_Node) (above : Int) (deep : Int) : Option (List shape_Node × Int) := (SS_shape_tree N) l above deep
def s_shape_Check (N : Nat) (p : shape_Pattern) : Option Int :=
  bif (ltB 40 (List.length p.Body : Int)) then
   some 5
  else
   (s_shape_tree N p.Body 0 0).bind fun tree =>
   bif (tree.2 != 0) then
    some tree.2
   else
    bif (ltB 0 (List.length tree.1 : Int)) then
     some 5
    else
     bif (ltB p.Within 1) then
      some 8
     else
      bif (ltB 1073741824 p.Within) then
       some 8
      else
       bif (!(p.By == [])) then
        (s_schema_Name N p.By).bind fun name =>
        bif (!name) then
         some 4
        else
         (s_shape_Word N p.Mode).bind fun word =>
         bif (word == []) then
          some 11
         else
          some 0
       else
        (s_shape_Word N p.Mode).bind fun word2 =>
        bif (word2 == []) then
         some 11
        else
         some 0
def s_grammar_Parse (N : Nat) (s : List UInt8) : Option (shape_Pattern ⊕ (shape_Pattern × Int × Int)) :=
  (s_lex_Scan N s).bind fun x => Sum.elim
  (fun scan =>
   (s_grammar_reader_pattern_v424 N scan 0 (List.length s : Int)).bind fun x => Sum.elim
   (fun patt =>
    (s_shape_Check N patt.1).bind fun chec =>
    bif (chec != 0) then
     (s_fault_New N chec 0).bind fun x => Sum.elim
     (fun new =>
      some (Sum.inl (shape_Pattern.mk [] 0 [] 0)))
     (fun new2 =>
      some (Sum.inr ((shape_Pattern.mk [] 0 [] 0), new2.1, new2.2))) x
    else
     some (Sum.inl patt.1))
   (fun patt2 =>
    some (Sum.inr ((shape_Pattern.mk [] 0 [] 0), patt2.2.1, patt2.2.2.1))) x)
  (fun scan2 =>
   some (Sum.inr ((shape_Pattern.mk [] 0 [] 0), scan2.2.1, scan2.2.2))) x
def s_fault_Code_n (N : Nat) : Option Int :=
  some 0
def s_fault_find_n (N : Nat) : Option Unit := some ()
def s_fault_At_n (N : Nat) : Option Int :=
  (s_fault_find_n N).bind fun find =>
  some 0
def s_pred_bound (N : Nat) (kind : Int) : Option Int :=
  bif (kind == 2) then
   some 1
  else
   bif (kind == 1) then
    some 2
   else
    some 3
def dgF : Nat → Nat → List UInt8
  | 0, _ => []
  | f + 1, m => (if m / 10 = 0 then [] else dgF f (m / 10)) ++ [UInt8.ofNat (48 + m % 10)]
def whS (n : Int) : List UInt8 := (if n < 0 then [45] else []) ++ dgF 20 n.natAbs
def s_lex_whole (N : Nat) (n : Int) : Option (List UInt8) := gd (leB (-4611686018427387904) n && leB n 4611686018427387904) (some (whS n))
def hexB (n : Nat) : UInt8 := if n < 10 then UInt8.ofNat (48 + n) else UInt8.ofNat (87 + n)
def hxS : Nat → Nat → List UInt8
  | 0, _ => []
  | k + 1, u => hexB (u / 16 ^ k % 16) :: hxS k u
def bitS (u : Nat) : List UInt8 := 35 :: hxS 16 u
def s_lex_bits (N : Nat) (u : Int) : Option (List UInt8) := gd (leB 0 u && ltB u 18446744073709551616) (some (bitS u.toNat))
def txC (c : UInt8) : List UInt8 := if c = 39 then [39, 39] else if c < 32 ∨ 126 < c ∨ c = 92 then [92, hexB (c.toNat / 16), hexB (c.toNat % 16)] else [c]
def txS (s : List UInt8) : List UInt8 := [39] ++ s.flatMap txC ++ [39]
def s_lex_text (N : Nat) (s : List UInt8) : Option (List UInt8) := gd (Nat.ble s.length 10000000000) (some (txS s))
def s_lex_Literal (N : Nat) (v : value_Value) : Option (List UInt8) :=
  (s_value_Check N v).bind fun chec =>
  bif (chec != 0) then
   some []
  else
   bif (v.Kind == 1) then
    (s_lex_whole N v.N).bind fun whol =>
    some whol
   else
    bif (v.Kind == 2) then
     bif (v.N == 0) then
      some [102, 97, 108, 115, 101]
     else
      some [116, 114, 117, 101]
    else
     bif (v.Kind == 3) then
      (s_lex_bits N v.Bits).bind fun bits =>
      some bits
     else
      (s_lex_text N v.Text).bind fun text =>
      some text
abbrev TS_pred_printer_tree_v501 : Type := ((List pred_Node) → Int → Option (List UInt8 × List pred_Node × Int)) × ((List UInt8) → Int → Int → (List pred_Node) → Int → Option (List UInt8 × List pred_Node × Int)) × (Int → (List pred_Node) → Int → Option (List UInt8 × List pred_Node × Int))
def b_pred_printer_tree_v501 (N : Nat) (p : TS_pred_printer_tree_v501) (y : List pred_Node) (y2 : Int) : Option (List UInt8 × List pred_Node × Int) :=
  (ix y y2).bind fun e =>
  gd (i64b (y2 + 1)) (
  bif (e.Kind == 2) then
   (p.2.1 [111, 114] 1 2 y (y2 + 1)).bind fun two =>
   some (two.1, two.2.1, two.2.2)
  else
   bif (e.Kind == 1) then
    (p.2.1 [97, 110, 100] 2 3 y (y2 + 1)).bind fun two2 =>
    some (two2.1, two2.2.1, two2.2.2)
   else
    bif (e.Kind == 3) then
     (p.2.2 3 y (y2 + 1)).bind fun vwith =>
     gd (Nat.ble (4 + (List.length vwith.1)) 9223372036854775807) (
     some ((110 :: 111 :: 116 :: 32 :: vwith.1), vwith.2.1, vwith.2.2))
    else
     bif (e.Kind == 4) then
      (s_compare_Sign N e.Op).bind fun sign =>
      (p.2.1 sign 0 0 y (y2 + 1)).bind fun two3 =>
      some (two3.1, two3.2.1, two3.2.2)
     else
      bif (e.Kind == 5) then
       (p.2.1 [43] 0 0 y (y2 + 1)).bind fun two4 =>
       some (two4.1, two4.2.1, two4.2.2)
      else
       bif (e.Kind == 6) then
        (p.2.1 [45] 0 0 y (y2 + 1)).bind fun two5 =>
        some (two5.1, two5.2.1, two5.2.2)
       else
        bif (e.Kind == 7) then
         some (e.Name, y, (y2 + 1))
        else
         bif (e.Kind == 8) then
          gd (Nat.ble ((List.length e.Var) + 1) 9223372036854775807) (
          gd (Nat.ble ((List.length (e.Var ++ [46])) + (List.length e.Name)) 9223372036854775807) (
          some (((e.Var ++ [46]) ++ e.Name), y, (y2 + 1))))
         else
          (s_lex_Literal N e.Val).bind fun lite =>
          some (lite, y, (y2 + 1)))
def b_pred_printer_two_v304 (N : Nat) (p : TS_pred_printer_tree_v501) (word : List UInt8) (left : Int) (right : Int) (y : List pred_Node) (y2 : Int) : Option (List UInt8 × List pred_Node × Int) :=
  (p.2.2 left y y2).bind fun vwith =>
  gd (Nat.ble ((List.length vwith.1) + 1) 9223372036854775807) (
  gd (Nat.ble ((List.length (vwith.1 ++ [32])) + (List.length word)) 9223372036854775807) (
  gd (Nat.ble ((List.length ((vwith.1 ++ [32]) ++ word)) + 1) 9223372036854775807) (
  (p.2.2 right vwith.2.1 vwith.2.2).bind fun vwith2 =>
  gd (Nat.ble ((List.length (((vwith.1 ++ [32]) ++ word) ++ [32])) + (List.length vwith2.1)) 9223372036854775807) (
  some (((((vwith.1 ++ [32]) ++ word) ++ [32]) ++ vwith2.1), vwith2.2.1, vwith2.2.2)))))
def b_pred_printer_within_v996 (N : Nat) (p : TS_pred_printer_tree_v501) (least : Int) (y : List pred_Node) (y2 : Int) : Option (List UInt8 × List pred_Node × Int) :=
  (ix y y2).bind fun e =>
  (s_pred_bound N e.Kind).bind fun boun =>
  bif (ltB boun least) then
   (p.1 y y2).bind fun tree =>
   gd (Nat.ble (1 + (List.length tree.1)) 9223372036854775807) (
   gd (Nat.ble ((List.length tree.1 + 1) + 1) 9223372036854775807) (
   some ((40 :: (tree.1 ++ [41])), tree.2.1, tree.2.2)))
  else
   (p.1 y y2).bind fun tree2 =>
   some (tree2.1, tree2.2.1, tree2.2.2)
def SS_pred_printer_tree_v501 (N : Nat) : TS_pred_printer_tree_v501 := Nat.rec (motive := fun _ => TS_pred_printer_tree_v501) ((fun _ _ => none), (fun _ _ _ _ _ => none), (fun _ _ _ => none)) (fun N p => ((b_pred_printer_tree_v501 N p), (b_pred_printer_two_v304 N p), (b_pred_printer_within_v996 N p))) N
def s_pred_printer_tree_v501 (N : Nat) (y : List pred_Node) (y2 : Int) : Option (List UInt8 × List pred_Node × Int) := (SS_pred_printer_tree_v501 N).1 y y2
def s_pred_printer_two_v304 (N : Nat) (word : List UInt8) (left : Int) (right : Int) (y : List pred_Node) (y2 : Int) : Option (List UInt8 × List pred_Node × Int) := (SS_pred_printer_tree_v501 N).2.1 word left right y y2
def s_pred_printer_within_v996 (N : Nat) (least : Int) (y : List pred_Node) (y2 : Int) : Option (List UInt8 × List pred_Node × Int) := (SS_pred_printer_tree_v501 N).2.2 least y y2
def s_pred_Print (N : Nat) (l : List pred_Node) : Option (List UInt8) :=
  bif ((List.length l : Int) == 0) then
   some []
  else
   (s_pred_Check N l).bind fun chec =>
   bif (chec != 0) then
    some []
   else
    (s_pred_printer_tree_v501 N l 0).bind fun tree =>
    some tree.1
def s_shape_Node_text (N : Nat) (n : shape_Node) : Option (List UInt8) :=
  gd (Nat.ble ((List.length n.Var) + 1) 9223372036854775807) (
  gd (Nat.ble ((List.length (n.Var ++ [58])) + (List.length n.Type_)) 9223372036854775807) (
  bif (n.Kind == 5) then
   gd (Nat.ble (1 + (List.length ((n.Var ++ [58]) ++ n.Type_))) 9223372036854775807) (
   bif (ltB 0 (List.length n.Test : Int)) then
    (s_pred_Print N n.Test).bind fun prin =>
    gd (Nat.ble (1 + (List.length prin)) 9223372036854775807) (
    gd (Nat.ble ((List.length prin + 1) + 1) 9223372036854775807) (
    gd (Nat.ble ((List.length ((n.Var ++ [58]) ++ n.Type_) + 1) + (List.length (prin ++ [93]) + 1)) 9223372036854775807) (
    some (33 :: (((n.Var ++ [58]) ++ n.Type_) ++ (91 :: (prin ++ [93])))))))
   else
    some (33 :: ((n.Var ++ [58]) ++ n.Type_)))
  else
   bif (ltB 0 (List.length n.Test : Int)) then
    (s_pred_Print N n.Test).bind fun prin2 =>
    gd (Nat.ble (1 + (List.length prin2)) 9223372036854775807) (
    gd (Nat.ble ((List.length prin2 + 1) + 1) 9223372036854775807) (
    gd (Nat.ble ((List.length ((n.Var ++ [58]) ++ n.Type_)) + (List.length (prin2 ++ [93]) + 1)) 9223372036854775807) (
    some (((n.Var ++ [58]) ++ n.Type_) ++ (91 :: (prin2 ++ [93]))))))
   else
    some ((n.Var ++ [58]) ++ n.Type_)))
def s_shape_digits (N : Nat) (n : Int) : Option (List UInt8) :=
  (s_value_OfInt N n).bind fun ofin =>
  (s_lex_Literal N ofin).bind fun lite =>
  some lite
def s_shape_Node_times (N : Nat) (n : shape_Node) : Option (List UInt8) :=
  bif (n.Hi == 1) then
   some [63]
  else
   bif (n.Hi == 0) then
    bif (n.Lo == 0) then
     some [42]
    else
     bif (n.Hi == 0) then
      bif (n.Lo == 1) then
       some [43]
      else
       bif (n.Hi == 0) then
        (s_shape_digits N n.Lo).bind fun digi =>
        gd (Nat.ble (1 + (List.length digi)) 9223372036854775807) (
        gd (Nat.ble ((List.length digi + 1) + 2) 9223372036854775807) (
        some (123 :: (digi ++ [44, 125]))))
       else
        bif (n.Hi == n.Lo) then
         (s_shape_digits N n.Lo).bind fun digi2 =>
         gd (Nat.ble (1 + (List.length digi2)) 9223372036854775807) (
         gd (Nat.ble ((List.length digi2 + 1) + 1) 9223372036854775807) (
         some (123 :: (digi2 ++ [125]))))
        else
         (s_shape_digits N n.Lo).bind fun digi3 =>
         gd (Nat.ble (1 + (List.length digi3)) 9223372036854775807) (
         gd (Nat.ble ((List.length digi3 + 1) + 1) 9223372036854775807) (
         (s_shape_digits N n.Hi).bind fun digi4 =>
         gd (Nat.ble ((List.length (digi3 ++ [44]) + 1) + (List.length digi4)) 9223372036854775807) (
         gd (Nat.ble ((List.length ((digi3 ++ [44]) ++ digi4) + 1) + 1) 9223372036854775807) (
         some (123 :: (((digi3 ++ [44]) ++ digi4) ++ [125]))))))
     else
      bif (n.Hi == 0) then
       (s_shape_digits N n.Lo).bind fun digi5 =>
       gd (Nat.ble (1 + (List.length digi5)) 9223372036854775807) (
       gd (Nat.ble ((List.length digi5 + 1) + 2) 9223372036854775807) (
       some (123 :: (digi5 ++ [44, 125]))))
      else
       bif (n.Hi == n.Lo) then
        (s_shape_digits N n.Lo).bind fun digi6 =>
        gd (Nat.ble (1 + (List.length digi6)) 9223372036854775807) (
        gd (Nat.ble ((List.length digi6 + 1) + 1) 9223372036854775807) (
        some (123 :: (digi6 ++ [125]))))
       else
        (s_shape_digits N n.Lo).bind fun digi7 =>
        gd (Nat.ble (1 + (List.length digi7)) 9223372036854775807) (
        gd (Nat.ble ((List.length digi7 + 1) + 1) 9223372036854775807) (
        (s_shape_digits N n.Hi).bind fun digi8 =>
        gd (Nat.ble ((List.length (digi7 ++ [44]) + 1) + (List.length digi8)) 9223372036854775807) (
        gd (Nat.ble ((List.length ((digi7 ++ [44]) ++ digi8) + 1) + 1) 9223372036854775807) (
        some (123 :: (((digi7 ++ [44]) ++ digi8) ++ [125]))))))
   else
    bif (n.Hi == 0) then
     bif (n.Lo == 1) then
      some [43]
     else
      bif (n.Hi == 0) then
       (s_shape_digits N n.Lo).bind fun digi9 =>
       gd (Nat.ble (1 + (List.length digi9)) 9223372036854775807) (
       gd (Nat.ble ((List.length digi9 + 1) + 2) 9223372036854775807) (
       some (123 :: (digi9 ++ [44, 125]))))
      else
       bif (n.Hi == n.Lo) then
        (s_shape_digits N n.Lo).bind fun digi10 =>
        gd (Nat.ble (1 + (List.length digi10)) 9223372036854775807) (
        gd (Nat.ble ((List.length digi10 + 1) + 1) 9223372036854775807) (
        some (123 :: (digi10 ++ [125]))))
       else
        (s_shape_digits N n.Lo).bind fun digi11 =>
        gd (Nat.ble (1 + (List.length digi11)) 9223372036854775807) (
        gd (Nat.ble ((List.length digi11 + 1) + 1) 9223372036854775807) (
        (s_shape_digits N n.Hi).bind fun digi12 =>
        gd (Nat.ble ((List.length (digi11 ++ [44]) + 1) + (List.length digi12)) 9223372036854775807) (
        gd (Nat.ble ((List.length ((digi11 ++ [44]) ++ digi12) + 1) + 1) 9223372036854775807) (
        some (123 :: (((digi11 ++ [44]) ++ digi12) ++ [125]))))))
    else
     bif (n.Hi == 0) then
      (s_shape_digits N n.Lo).bind fun digi13 =>
      gd (Nat.ble (1 + (List.length digi13)) 9223372036854775807) (
      gd (Nat.ble ((List.length digi13 + 1) + 2) 9223372036854775807) (
      some (123 :: (digi13 ++ [44, 125]))))
     else
      bif (n.Hi == n.Lo) then
       (s_shape_digits N n.Lo).bind fun digi14 =>
       gd (Nat.ble (1 + (List.length digi14)) 9223372036854775807) (
       gd (Nat.ble ((List.length digi14 + 1) + 1) 9223372036854775807) (
       some (123 :: (digi14 ++ [125]))))
      else
       (s_shape_digits N n.Lo).bind fun digi15 =>
       gd (Nat.ble (1 + (List.length digi15)) 9223372036854775807) (
       gd (Nat.ble ((List.length digi15 + 1) + 1) 9223372036854775807) (
       (s_shape_digits N n.Hi).bind fun digi16 =>
       gd (Nat.ble ((List.length (digi15 ++ [44]) + 1) + (List.length digi16)) 9223372036854775807) (
       gd (Nat.ble ((List.length ((digi15 ++ [44]) ++ digi16) + 1) + 1) 9223372036854775807) (
       some (123 :: (((digi15 ++ [44]) ++ digi16) ++ [125]))))))
abbrev TS_shape_Print_L1_v949 : Type := (Int → (List shape_Node) → Int → (List UInt8) → Int → Int → Option (List UInt8 × List shape_Node × Int × List UInt8 × Int × Int))
def s_shape_Print_L1_v949_1 (N : Nat) (p : TS_shape_Print_L1_v949) (above : Int) (x : Int) (y11 : Int) (y12 : Int) (y13 : Int) (y14 : Int) (y15 : List UInt8) (y16 : List UInt8) (y17 : List pred_Node) (next0 : (List UInt8) → (List UInt8) → Int → (List shape_Node) → Int → (List UInt8) → Int → Int → Option (List UInt8 × List shape_Node × Int × List UInt8 × Int × Int)) (between : List UInt8) (s : List UInt8) (x2 : Int) (y6 : List shape_Node) (y7 : Int) (y8 : List UInt8) (y9 : Int) (y10 : Int) : Option (List UInt8 × List shape_Node × Int × List UInt8 × Int × Int) :=
  bif (ltB x2 x) then
   (p y11 y6 y7 y8 y9 y10).bind fun l2 =>
   gd (Nat.ble ((List.length between) + (List.length l2.1)) 9223372036854775807) (
   gd (Nat.ble ((List.length s) + (List.length (between ++ l2.1))) 9223372036854775807) (
   gd (i64b (x2 + 1)) (
   next0 between (s ++ (between ++ l2.1)) (x2 + 1) l2.2.1 l2.2.2.1 l2.2.2.2.1 l2.2.2.2.2.1 l2.2.2.2.2.2)))
  else
   bif (y11 == 3) then
    (s_shape_Node_times N (shape_Node.mk y11 y12 y13 y14 y15 y16 y17)).bind fun time =>
    gd (Nat.ble ((List.length s) + (List.length time)) 9223372036854775807) (
    bif (above == 3) then
     gd (Nat.ble (1 + (List.length (s ++ time))) 9223372036854775807) (
     gd (Nat.ble ((List.length (s ++ time) + 1) + 1) 9223372036854775807) (
     some ((40 :: ((s ++ time) ++ [41])), y6, y7, y8, y9, y10)))
    else
     bif (above == 1) then
      bif (y11 == 2) then
       gd (Nat.ble (1 + (List.length (s ++ time))) 9223372036854775807) (
       gd (Nat.ble ((List.length (s ++ time) + 1) + 1) 9223372036854775807) (
       some ((40 :: ((s ++ time) ++ [41])), y6, y7, y8, y9, y10)))
      else
       some ((s ++ time), y6, y7, y8, y9, y10)
     else
      some ((s ++ time), y6, y7, y8, y9, y10))
   else
    bif (above == 3) then
     gd (Nat.ble (1 + (List.length s)) 9223372036854775807) (
     gd (Nat.ble ((List.length s + 1) + 1) 9223372036854775807) (
     some ((40 :: (s ++ [41])), y6, y7, y8, y9, y10)))
    else
     bif (above == 1) then
      bif (y11 == 2) then
       gd (Nat.ble (1 + (List.length s)) 9223372036854775807) (
       gd (Nat.ble ((List.length s + 1) + 1) 9223372036854775807) (
       some ((40 :: (s ++ [41])), y6, y7, y8, y9, y10)))
      else
       some (s, y6, y7, y8, y9, y10)
     else
      some (s, y6, y7, y8, y9, y10)
def b_shape_Print_L1_v949 (N : Nat) (p : TS_shape_Print_L1_v949) (above : Int) (y : List shape_Node) (y2 : Int) (y3 : List UInt8) (y4 : Int) (y5 : Int) : Option (List UInt8 × List shape_Node × Int × List UInt8 × Int × Int) :=
  (ix y y5).bind fun e =>
  gd (i64b (y5 + 1)) (
  (s_shape_Node_leaf N e).bind fun leaf =>
  bif leaf then
   (s_shape_Node_text N e).bind fun text =>
   some (text, y, y2, y3, y4, (y5 + 1))
  else
   bif (e.Kind == 2) then
    (p e.Kind y y2 y3 y4 (y5 + 1)).bind fun l =>
    (s_shape_Node_kids N e).bind fun kids =>
    gd (i64b (kids - 1)) (
    lp8 (s_shape_Print_L1_v949_1 N p above (kids - 1) e.Kind e.Kids e.Lo e.Hi e.Var e.Type_ e.Test) N [32, 124, 32] l.1 0 l.2.1 l.2.2.1 l.2.2.2.1 l.2.2.2.2.1 l.2.2.2.2.2)
   else
    (p e.Kind y y2 y3 y4 (y5 + 1)).bind fun l3 =>
    (s_shape_Node_kids N e).bind fun kids2 =>
    gd (i64b (kids2 - 1)) (
    lp8 (s_shape_Print_L1_v949_1 N p above (kids2 - 1) e.Kind e.Kids e.Lo e.Hi e.Var e.Type_ e.Test) N [59, 32] l3.1 0 l3.2.1 l3.2.2.1 l3.2.2.2.1 l3.2.2.2.2.1 l3.2.2.2.2.2))
def SS_shape_Print_L1_v949 (N : Nat) : TS_shape_Print_L1_v949 := Nat.rec (motive := fun _ => TS_shape_Print_L1_v949) (fun _ _ _ _ _ _ => none) (fun N p => (b_shape_Print_L1_v949 N p)) N
def s_shape_Print_L1_v949 (N : Nat) (above : Int) (y : List shape_Node) (y2 : Int) (y3 : List UInt8) (y4 : Int) (y5 : Int) : Option (List UInt8 × List shape_Node × Int × List UInt8 × Int × Int) := (SS_shape_Print_L1_v949 N) above y y2 y3 y4 y5
def s_shape_Print (N : Nat) (p : shape_Pattern) : Option (List UInt8) :=
  (s_shape_Check N p).bind fun chec =>
  bif (chec != 0) then
   some []
  else
   both EqR.bytes (
    (s_shape_Print_L1_v949 N 0 p.Body p.Within p.By p.Mode 0).bind fun l =>
    gd (Nat.ble ((List.length l.1) + 8) 9223372036854775807) (
    (s_shape_digits N l.2.2.1).bind fun digi =>
    gd (Nat.ble ((List.length (l.1 ++ [32, 119, 105, 116, 104, 105, 110, 32])) + (List.length digi)) 9223372036854775807) (
    bif (!(l.2.2.2.1 == [])) then
     gd (Nat.ble (4 + (List.length l.2.2.2.1)) 9223372036854775807) (
     gd (Nat.ble ((List.length ((l.1 ++ [32, 119, 105, 116, 104, 105, 110, 32]) ++ digi)) + (List.length l.2.2.2.1 + 4)) 9223372036854775807) (
     gd (Nat.ble ((List.length (((l.1 ++ [32, 119, 105, 116, 104, 105, 110, 32]) ++ digi) ++ (32 :: 98 :: 121 :: 32 :: l.2.2.2.1))) + 1) 9223372036854775807) (
     (s_shape_Word N l.2.2.2.2.1).bind fun word =>
     gd (Nat.ble ((List.length ((((l.1 ++ [32, 119, 105, 116, 104, 105, 110, 32]) ++ digi) ++ (32 :: 98 :: 121 :: 32 :: l.2.2.2.1)) ++ [32])) + (List.length word)) 9223372036854775807) (
     some (((((l.1 ++ [32, 119, 105, 116, 104, 105, 110, 32]) ++ digi) ++ (32 :: 98 :: 121 :: 32 :: l.2.2.2.1)) ++ [32]) ++ word)))))
    else
     gd (Nat.ble ((List.length ((l.1 ++ [32, 119, 105, 116, 104, 105, 110, 32]) ++ digi)) + 1) 9223372036854775807) (
     (s_shape_Word N l.2.2.2.2.1).bind fun word2 =>
     gd (Nat.ble ((List.length (((l.1 ++ [32, 119, 105, 116, 104, 105, 110, 32]) ++ digi) ++ [32])) + (List.length word2)) 9223372036854775807) (
     some ((((l.1 ++ [32, 119, 105, 116, 104, 105, 110, 32]) ++ digi) ++ [32]) ++ word2)))))) (
    (s_shape_Print_L1_v949 N 0 p.Body p.Within p.By p.Mode 0).bind fun l2 =>
    gd (Nat.ble ((List.length l2.1) + 8) 9223372036854775807) (
    (s_shape_digits N p.Within).bind fun digi2 =>
    gd (Nat.ble ((List.length (l2.1 ++ [32, 119, 105, 116, 104, 105, 110, 32])) + (List.length digi2)) 9223372036854775807) (
    bif (!(l2.2.2.2.1 == [])) then
     gd (Nat.ble (4 + (List.length l2.2.2.2.1)) 9223372036854775807) (
     gd (Nat.ble ((List.length ((l2.1 ++ [32, 119, 105, 116, 104, 105, 110, 32]) ++ digi2)) + (List.length l2.2.2.2.1 + 4)) 9223372036854775807) (
     gd (Nat.ble ((List.length (((l2.1 ++ [32, 119, 105, 116, 104, 105, 110, 32]) ++ digi2) ++ (32 :: 98 :: 121 :: 32 :: l2.2.2.2.1))) + 1) 9223372036854775807) (
     (s_shape_Word N l2.2.2.2.2.1).bind fun word3 =>
     gd (Nat.ble ((List.length ((((l2.1 ++ [32, 119, 105, 116, 104, 105, 110, 32]) ++ digi2) ++ (32 :: 98 :: 121 :: 32 :: l2.2.2.2.1)) ++ [32])) + (List.length word3)) 9223372036854775807) (
     some (((((l2.1 ++ [32, 119, 105, 116, 104, 105, 110, 32]) ++ digi2) ++ (32 :: 98 :: 121 :: 32 :: l2.2.2.2.1)) ++ [32]) ++ word3)))))
    else
     gd (Nat.ble ((List.length ((l2.1 ++ [32, 119, 105, 116, 104, 105, 110, 32]) ++ digi2)) + 1) 9223372036854775807) (
     (s_shape_Word N l2.2.2.2.2.1).bind fun word4 =>
     gd (Nat.ble ((List.length (((l2.1 ++ [32, 119, 105, 116, 104, 105, 110, 32]) ++ digi2) ++ [32])) + (List.length word4)) 9223372036854775807) (
     some ((((l2.1 ++ [32, 119, 105, 116, 104, 105, 110, 32]) ++ digi2) ++ [32]) ++ word4))))))
def s_fault_find_f (N : Nat) (e p : Int) : Option (Int × Int) := some (e, p)
def s_fault_Code_f (N : Nat) (err : Int) (err2 : Int) : Option Int :=
  (s_fault_find_f N err err2).bind fun find =>
  some find.1
def s_fault_At_f (N : Nat) (err : Int) (err2 : Int) : Option Int :=
  (s_fault_find_f N err err2).bind fun find =>
  some find.2
def s_law14_awake (N : Nat) : Option Bool := bif Nat.ble 300 N then some true else none
def s_law14_GrammarDeep_j3 (N : Nat) (x4 : Bool) : Option Bool :=
  some x4
def s_law14_GrammarDeep_j2 (N : Nat) (x3 : Bool) : Option Bool :=
  bif x3 then
   (s_law14_awake N).bind fun awak =>
   s_law14_GrammarDeep_j3 N awak
  else
   s_law14_GrammarDeep_j3 N false
def s_law14_GrammarDeep_j5 (N : Nat) (x6 : Bool) : Option Bool :=
  some x6
def s_law14_GrammarDeep_j4 (N : Nat) (x5 : Bool) : Option Bool :=
  bif x5 then
   (s_law14_awake N).bind fun awak2 =>
   s_law14_GrammarDeep_j5 N awak2
  else
   s_law14_GrammarDeep_j5 N false
def s_law14_GrammarDeep_j1 (N : Nat) (b : Int) (pars2 : shape_Pattern) (x2 : Bool) : Option Bool :=
  bif x2 then
   some false
  else
   bif (ltB 16 b) then
    (s_fault_Code_n N).bind fun code2 =>
    bif (code2 == 15) then
     (s_fault_At_n N).bind fun vat2 =>
     s_law14_GrammarDeep_j2 N (vat2 == 68)
    else
     s_law14_GrammarDeep_j2 N false
   else
    gd (i64b (b + 2)) (
    bif (ltB 16 (b + 2)) then
     (s_fault_Code_n N).bind fun code3 =>
     bif (code3 == 15) then
      (s_fault_At_n N).bind fun vat3 =>
      s_law14_GrammarDeep_j4 N (vat3 == 4)
     else
      s_law14_GrammarDeep_j4 N false
    else
     bif ((List.length pars2.Body : Int) == 1) then
      (ix pars2.Body 0).bind fun e =>
      gd (i64b (b + 3)) (
      bif ((List.length e.Test : Int) == (b + 3)) then
       (s_law14_awake N).bind fun awak3 =>
       some awak3
      else
       some false)
     else
      some false)
def s_law14_GrammarDeep_j0 (N : Nat) (va : Int) (b : Int) (pars : shape_Pattern) (pars2 : shape_Pattern) (x : Bool) : Option Bool :=
  bif x then
   s_law14_GrammarDeep_j1 N b pars2 true
  else
   bif (leB va 16) then
    s_law14_GrammarDeep_j1 N b pars2 ((List.length pars.Body : Int) != 1)
   else
    s_law14_GrammarDeep_j1 N b pars2 false
def s_law14_GrammarDeep_j9 (N : Nat) (x10 : Bool) : Option Bool :=
  some x10
def s_law14_GrammarDeep_j8 (N : Nat) (x9 : Bool) : Option Bool :=
  bif x9 then
   (s_law14_awake N).bind fun awak4 =>
   s_law14_GrammarDeep_j9 N awak4
  else
   s_law14_GrammarDeep_j9 N false
def s_law14_GrammarDeep_j11 (N : Nat) (x12 : Bool) : Option Bool :=
  some x12
def s_law14_GrammarDeep_j10 (N : Nat) (x11 : Bool) : Option Bool :=
  bif x11 then
   (s_law14_awake N).bind fun awak5 =>
   s_law14_GrammarDeep_j11 N awak5
  else
   s_law14_GrammarDeep_j11 N false
def s_law14_GrammarDeep_j7 (N : Nat) (b : Int) (pars3 : shape_Pattern × Int × Int) (x8 : Bool) : Option Bool :=
  bif x8 then
   some false
  else
   bif (ltB 16 b) then
    (s_fault_Code_f N pars3.2.1 pars3.2.2).bind fun code5 =>
    bif (code5 == 15) then
     (s_fault_At_f N pars3.2.1 pars3.2.2).bind fun vat5 =>
     s_law14_GrammarDeep_j8 N (vat5 == 68)
    else
     s_law14_GrammarDeep_j8 N false
   else
    gd (i64b (b + 2)) (
    bif (ltB 16 (b + 2)) then
     (s_fault_Code_f N pars3.2.1 pars3.2.2).bind fun code6 =>
     bif (code6 == 15) then
      (s_fault_At_f N pars3.2.1 pars3.2.2).bind fun vat6 =>
      s_law14_GrammarDeep_j10 N (vat6 == 4)
     else
      s_law14_GrammarDeep_j10 N false
    else
     some false)
def s_law14_GrammarDeep_j6 (N : Nat) (va : Int) (b : Int) (pars : shape_Pattern) (pars3 : shape_Pattern × Int × Int) (x7 : Bool) : Option Bool :=
  bif x7 then
   s_law14_GrammarDeep_j7 N b pars3 true
  else
   bif (leB va 16) then
    s_law14_GrammarDeep_j7 N b pars3 ((List.length pars.Body : Int) != 1)
   else
    s_law14_GrammarDeep_j7 N b pars3 false
def s_law14_GrammarDeep_j15 (N : Nat) (x16 : Bool) : Option Bool :=
  some x16
def s_law14_GrammarDeep_j14 (N : Nat) (x15 : Bool) : Option Bool :=
  bif x15 then
   (s_law14_awake N).bind fun awak6 =>
   s_law14_GrammarDeep_j15 N awak6
  else
   s_law14_GrammarDeep_j15 N false
def s_law14_GrammarDeep_j17 (N : Nat) (x18 : Bool) : Option Bool :=
  some x18
def s_law14_GrammarDeep_j16 (N : Nat) (x17 : Bool) : Option Bool :=
  bif x17 then
   (s_law14_awake N).bind fun awak7 =>
   s_law14_GrammarDeep_j17 N awak7
  else
   s_law14_GrammarDeep_j17 N false
def s_law14_GrammarDeep_j13 (N : Nat) (b : Int) (pars5 : shape_Pattern) (x14 : Bool) : Option Bool :=
  bif x14 then
   some false
  else
   bif (ltB 16 b) then
    (s_fault_Code_n N).bind fun code8 =>
    bif (code8 == 15) then
     (s_fault_At_n N).bind fun vat8 =>
     s_law14_GrammarDeep_j14 N (vat8 == 68)
    else
     s_law14_GrammarDeep_j14 N false
   else
    gd (i64b (b + 2)) (
    bif (ltB 16 (b + 2)) then
     (s_fault_Code_n N).bind fun code9 =>
     bif (code9 == 15) then
      (s_fault_At_n N).bind fun vat9 =>
      s_law14_GrammarDeep_j16 N (vat9 == 4)
     else
      s_law14_GrammarDeep_j16 N false
    else
     bif ((List.length pars5.Body : Int) == 1) then
      (ix pars5.Body 0).bind fun e2 =>
      gd (i64b (b + 3)) (
      bif ((List.length e2.Test : Int) == (b + 3)) then
       (s_law14_awake N).bind fun awak8 =>
       some awak8
      else
       some false)
     else
      some false)
def s_law14_GrammarDeep_j12 (N : Nat) (va : Int) (b : Int) (pars5 : shape_Pattern) (x13 : Bool) : Option Bool :=
  bif x13 then
   s_law14_GrammarDeep_j13 N b pars5 true
  else
   bif (leB va 16) then
    s_law14_GrammarDeep_j13 N b pars5 true
   else
    s_law14_GrammarDeep_j13 N b pars5 false
def s_law14_GrammarDeep_j21 (N : Nat) (x22 : Bool) : Option Bool :=
  some x22
def s_law14_GrammarDeep_j20 (N : Nat) (x21 : Bool) : Option Bool :=
  bif x21 then
   (s_law14_awake N).bind fun awak9 =>
   s_law14_GrammarDeep_j21 N awak9
  else
   s_law14_GrammarDeep_j21 N false
def s_law14_GrammarDeep_j23 (N : Nat) (x24 : Bool) : Option Bool :=
  some x24
def s_law14_GrammarDeep_j22 (N : Nat) (x23 : Bool) : Option Bool :=
  bif x23 then
   (s_law14_awake N).bind fun awak10 =>
   s_law14_GrammarDeep_j23 N awak10
  else
   s_law14_GrammarDeep_j23 N false
def s_law14_GrammarDeep_j19 (N : Nat) (b : Int) (pars6 : shape_Pattern × Int × Int) (x20 : Bool) : Option Bool :=
  bif x20 then
   some false
  else
   bif (ltB 16 b) then
    (s_fault_Code_f N pars6.2.1 pars6.2.2).bind fun code11 =>
    bif (code11 == 15) then
     (s_fault_At_f N pars6.2.1 pars6.2.2).bind fun vat11 =>
     s_law14_GrammarDeep_j20 N (vat11 == 68)
    else
     s_law14_GrammarDeep_j20 N false
   else
    gd (i64b (b + 2)) (
    bif (ltB 16 (b + 2)) then
     (s_fault_Code_f N pars6.2.1 pars6.2.2).bind fun code12 =>
     bif (code12 == 15) then
      (s_fault_At_f N pars6.2.1 pars6.2.2).bind fun vat12 =>
      s_law14_GrammarDeep_j22 N (vat12 == 4)
     else
      s_law14_GrammarDeep_j22 N false
    else
     some false)
def s_law14_GrammarDeep_j18 (N : Nat) (va : Int) (b : Int) (pars6 : shape_Pattern × Int × Int) (x19 : Bool) : Option Bool :=
  bif x19 then
   s_law14_GrammarDeep_j19 N b pars6 true
  else
   bif (leB va 16) then
    s_law14_GrammarDeep_j19 N b pars6 true
   else
    s_law14_GrammarDeep_j19 N b pars6 false
def s_law14_GrammarDeep_2 (N : Nat) (va : Int) (b : Int) (body : List UInt8) (next2 : (List UInt8) → Int → Option Bool) (test : List UInt8) (i2 : Int) : Option Bool :=
  bif (ltB i2 b) then
   gd (Nat.ble ((List.length test) + 4) 9223372036854775807) (
   gd (i64b (i2 + 1)) (
   next2 (test ++ [110, 111, 116, 32]) (i2 + 1)))
  else
   gd (Nat.ble ((List.length body) + 13) 9223372036854775807) (
   (s_grammar_Parse N (body ++ [32, 119, 105, 116, 104, 105, 110, 32, 53, 32, 97, 110, 121])).bind fun x => Sum.elim
   (fun pars =>
    gd (Nat.ble (4 + (List.length test)) 9223372036854775807) (
    gd (Nat.ble ((List.length test + 4) + 19) 9223372036854775807) (
    (s_grammar_Parse N (97 :: 58 :: 116 :: 91 :: (test ++ [110, 32, 61, 32, 49, 93, 32, 119, 105, 116, 104, 105, 110, 32, 53, 32, 97, 110, 121]))).bind fun x => Sum.elim
    (fun pars2 =>
     bif (ltB 16 va) then
      (s_fault_Code_n N).bind fun code =>
      bif (code != 15) then
       s_law14_GrammarDeep_j0 N va b pars pars2 true
      else
       (s_fault_At_n N).bind fun vat =>
       s_law14_GrammarDeep_j0 N va b pars pars2 (vat != 16)
     else
      s_law14_GrammarDeep_j0 N va b pars pars2 false)
    (fun pars3 =>
     bif (ltB 16 va) then
      (s_fault_Code_n N).bind fun code4 =>
      bif (code4 != 15) then
       s_law14_GrammarDeep_j6 N va b pars pars3 true
      else
       (s_fault_At_n N).bind fun vat4 =>
       s_law14_GrammarDeep_j6 N va b pars pars3 (vat4 != 16)
     else
      s_law14_GrammarDeep_j6 N va b pars pars3 false) x)))
   (fun pars4 =>
    gd (Nat.ble (4 + (List.length test)) 9223372036854775807) (
    gd (Nat.ble ((List.length test + 4) + 19) 9223372036854775807) (
    (s_grammar_Parse N (97 :: 58 :: 116 :: 91 :: (test ++ [110, 32, 61, 32, 49, 93, 32, 119, 105, 116, 104, 105, 110, 32, 53, 32, 97, 110, 121]))).bind fun x => Sum.elim
    (fun pars5 =>
     bif (ltB 16 va) then
      (s_fault_Code_f N pars4.2.1 pars4.2.2).bind fun code7 =>
      bif (code7 != 15) then
       s_law14_GrammarDeep_j12 N va b pars5 true
      else
       (s_fault_At_f N pars4.2.1 pars4.2.2).bind fun vat7 =>
       s_law14_GrammarDeep_j12 N va b pars5 (vat7 != 16)
     else
      s_law14_GrammarDeep_j12 N va b pars5 false)
    (fun pars6 =>
     bif (ltB 16 va) then
      (s_fault_Code_f N pars4.2.1 pars4.2.2).bind fun code10 =>
      bif (code10 != 15) then
       s_law14_GrammarDeep_j18 N va b pars6 true
      else
       (s_fault_At_f N pars4.2.1 pars4.2.2).bind fun vat10 =>
       s_law14_GrammarDeep_j18 N va b pars6 (vat10 != 16)
     else
      s_law14_GrammarDeep_j18 N va b pars6 false) x))) x)
def s_law14_GrammarDeep_1 (N : Nat) (va : Int) (b : Int) (next0 : (List UInt8) → Int → Option Bool) (body : List UInt8) (i : Int) : Option Bool :=
  bif (ltB i va) then
   gd (Nat.ble (1 + (List.length body)) 9223372036854775807) (
   gd (Nat.ble ((List.length body + 1) + 1) 9223372036854775807) (
   gd (i64b (i + 1)) (
   next0 (40 :: (body ++ [41])) (i + 1))))
  else
   lp2 (s_law14_GrammarDeep_2 N va b body) N [] 0
def s_law14_GrammarDeep (N : Nat) (n : Int) (m : Int) : Option Bool :=
  lp2 (s_law14_GrammarDeep_1 N (IntKind.i64.wrap (Int.tmod n 61)) (IntKind.i64.wrap (Int.tmod m 61))) N [97, 58, 116] 0
end
end
end Go.Proofs.YtahklhniofiofaaGreatDoor.D
