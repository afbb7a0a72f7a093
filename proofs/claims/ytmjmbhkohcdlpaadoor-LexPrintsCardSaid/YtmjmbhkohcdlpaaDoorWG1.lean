/- fault.New, walked. No premise beyond what each theorem says. -/
import Derived.Test.YtmjmbhkohcdlpaaDoorWA4
import Derived.Test.YtmjmbhkohcdlpaaDoorProg
import Derived.WalkKit
import Derived.LaidEql
import Derived.Stop.Asserts
import Derived.RowKitTokens
import Derived.Shelf.Strings.BuilderK
import Derived.BigCall
import Derived.Laws.BytesString
import Derived.Laws.IdiomStrings
import Derived.Lib.SmallJoins
import Derived.Laws.Bits64b
import Derived.Lib.UnsafeStr
import Derived.Lib.OthersKept
import Derived.Deep.RegionHeld3
import Derived.Shelf.Strings.OnBuilder
set_option linter.all false
set_option linter.unusedSimpArgs false
set_option linter.unusedVariables false
namespace Go.Proofs.YtmjmbhkohcdlpaaDoor.W
open Go
open Go.Proofs.Tryd
set_option maxRecDepth 1000000
set_option linter.unusedSimpArgs false
set_option linter.unusedVariables false
noncomputable section
structure value_Value where
  Kind : Int
  N : Int
  Bits : Int
  Text : List UInt8
structure lex_Token where
  Kind : Int
  At : Int
  Text : List UInt8
  Val : value_Value
structure anon_42 where
  i0 : List lex_Token
  i1 : List lex_Token
def s_law04_Small (N : Nat) (v : value_Value) : Option Int :=
  gd (i64b ((List.length v.Text : Int) - 100)) (
  some (max 0 ((List.length v.Text : Int) - 100)))
def s_law10_Over_1 (N : Nat) (l : List lex_Token) (next0 : Int → Option Int) (i : Int) : Option Int :=
  bif (ltB i (List.length l : Int)) then
   (ix l i).bind fun e =>
   bif (ltB 100 (List.length e.Text : Int)) then
    some 1
   else
    (ix l i).bind fun e2 =>
    (s_law04_Small N e2.Val).bind fun smal =>
    bif (ltB 0 smal) then
     some 1
    else
     gd (i64b (i + 1)) (
     next0 (i + 1))
  else
   some 0
def s_law10_Over (N : Nat) (l : List lex_Token) (most : Int) : Option Int :=
  bif (ltB most (List.length l : Int)) then
   some 1
  else
   lp1 (s_law10_Over_1 N l) N 0
def s_fault_New (N : Nat) (e p : Int) : Option (Unit ⊕ (Int × Int)) := bif e == 0 then some (.inl ()) else some (.inr (e, p))
def s_lex_small (N : Nat) (c : Int) : Option Bool :=
  bif (leB 97 c) then
   some (leB c 122)
  else
   some false
def s_lex_scanner_fail_v359 (N : Nat) (e : Int) (y : List UInt8) (y2 : Int) (xs : List lex_Token) : Option ((List UInt8 × Int × List lex_Token) ⊕ (Int × Int × List UInt8 × Int × List lex_Token)) :=
  (s_fault_New N e y2).bind fun x => Sum.elim
  (fun new =>
   some (Sum.inl (y, y2, xs)))
  (fun new2 =>
   some (Sum.inr (new2.1, new2.2, y, y2, xs))) x
def s_lex_digit (N : Nat) (c : Int) : Option Bool :=
  bif (leB 48 c) then
   some (leB c 57)
  else
   some false
def s_lex_tail (N : Nat) (c : Int) : Option Bool :=
  (s_lex_small N c).bind fun smal =>
  bif smal then
   some true
  else
   (s_lex_digit N c).bind fun digi =>
   bif digi then
    some true
   else
    some (c == 95)
def s_lex_scanner_length_v869_1 (N : Nat) (y : List UInt8) (y2 : Int) (xs : List lex_Token) (next0 : Int → Option (Int × List UInt8 × Int × List lex_Token)) (n : Int) : Option (Int × List UInt8 × Int × List lex_Token) :=
  gd (i64b (y2 + n)) (
  bif (ltB (y2 + n) (List.length y : Int)) then
   gd (i64b (y2 + n)) (
   (ix y (y2 + n)).bind fun c =>
   (s_lex_tail N (UInt8.toNat c : Int)).bind fun tail =>
   bif tail then
    gd (i64b (n + 1)) (
    next0 (n + 1))
   else
    some (n, y, y2, xs))
  else
   some (n, y, y2, xs))
def s_lex_scanner_length_v869 (N : Nat) (y : List UInt8) (y2 : Int) (xs : List lex_Token) : Option (Int × List UInt8 × Int × List lex_Token) :=
  lp1 (s_lex_scanner_length_v869_1 N y y2 xs) N 0
def s_value_OfFlag (N : Nat) (is : Bool) : Option value_Value :=
  bif is then
   some (value_Value.mk 2 1 0 [])
  else
   some (value_Value.mk 2 0 0 [])
def s_lex_scanner_put_v420 (N : Nat) (n : Int) (kind : Int) (text : List UInt8) (v : value_Value) (y : List UInt8) (y2 : Int) (xs : List lex_Token) : Option (List UInt8 × Int × List lex_Token) :=
  gd (Nat.ble ((List.length xs + 1) * 72) 140737488355328) (
  gd (i64b (y2 + n)) (
  some (y, (y2 + n), (xs ++ [(lex_Token.mk kind y2 text v)]))))
def s_schema_Reserved (N : Nat) (s : List UInt8) : Option Bool :=
  bif (s == [119, 105, 116, 104, 105, 110]) then
   bif (s == [119, 105, 116, 104, 105, 110]) then
    some true
   else
    some false
  else
   bif (s == [98, 121]) then
    bif (s == [98, 121]) then
     some true
    else
     some false
   else
    bif (s == [97, 110, 100]) then
     bif (s == [97, 110, 100]) then
      some true
     else
      some false
    else
     bif (s == [111, 114]) then
      bif (s == [111, 114]) then
       some true
      else
       some false
     else
      bif (s == [110, 111, 116]) then
       bif (s == [110, 111, 116]) then
        some true
       else
        some false
      else
       bif (s == [97, 110, 121]) then
        bif (s == [97, 110, 121]) then
         some true
        else
         some false
       else
        bif (s == [110, 101, 120, 116]) then
         bif (s == [110, 101, 120, 116]) then
          some true
         else
          some false
        else
         bif (s == [115, 116, 114, 105, 99, 116]) then
          bif (s == [115, 116, 114, 105, 99, 116]) then
           some true
          else
           some false
         else
          bif (s == [116, 114, 117, 101]) then
           bif (s == [116, 114, 117, 101]) then
            some true
           else
            some false
          else
           bif (s == [102, 97, 108, 115, 101]) then
            some true
           else
            some false
def s_lex_scanner_word_v558 (N : Nat) (y : List UInt8) (y2 : Int) (xs : List lex_Token) : Option ((List UInt8 × Int × List lex_Token) ⊕ (List UInt8 × Int × List lex_Token) ⊕ (Int × Int × List UInt8 × Int × List lex_Token)) :=
  (s_lex_scanner_length_v869 N y y2 xs).bind fun leng =>
  gd (i64b (leng.2.2.1 + leng.1)) (
  gd (leB 0 leng.2.2.1) (
  gd (leB leng.2.2.1 (leng.2.2.1 + leng.1)) (
  gd (leB (leng.2.2.1 + leng.1) (List.length leng.2.1 : Int)) (
  bif ((List.drop (Int.toNat leng.2.2.1) (List.take (Int.toNat (leng.2.2.1 + leng.1)) leng.2.1)) == [116, 114, 117, 101]) then
   (s_value_OfFlag N ((List.drop (Int.toNat leng.2.2.1) (List.take (Int.toNat (leng.2.2.1 + leng.1)) leng.2.1)) == [116, 114, 117, 101])).bind fun offl =>
   (s_lex_scanner_put_v420 N leng.1 3 [] offl leng.2.1 leng.2.2.1 leng.2.2.2).bind fun put =>
   some (Sum.inl (put.1, put.2.1, put.2.2))
  else
   bif ((List.drop (Int.toNat leng.2.2.1) (List.take (Int.toNat (leng.2.2.1 + leng.1)) leng.2.1)) == [102, 97, 108, 115, 101]) then
    (s_value_OfFlag N ((List.drop (Int.toNat leng.2.2.1) (List.take (Int.toNat (leng.2.2.1 + leng.1)) leng.2.1)) == [116, 114, 117, 101])).bind fun offl2 =>
    (s_lex_scanner_put_v420 N leng.1 3 [] offl2 leng.2.1 leng.2.2.1 leng.2.2.2).bind fun put2 =>
    some (Sum.inl (put2.1, put2.2.1, put2.2.2))
   else
    (s_schema_Reserved N (List.drop (Int.toNat leng.2.2.1) (List.take (Int.toNat (leng.2.2.1 + leng.1)) leng.2.1))).bind fun rese =>
    bif rese then
     (s_lex_scanner_put_v420 N leng.1 2 (List.drop (Int.toNat leng.2.2.1) (List.take (Int.toNat (leng.2.2.1 + leng.1)) leng.2.1)) (value_Value.mk 0 0 0 []) leng.2.1 leng.2.2.1 leng.2.2.2).bind fun put3 =>
     some (Sum.inl (put3.1, put3.2.1, put3.2.2))
    else
     bif (ltB 12 leng.1) then
      (s_lex_scanner_fail_v359 N 5 leng.2.1 leng.2.2.1 leng.2.2.2).bind fun x => Sum.elim
      (fun fail =>
       some (Sum.inr (Sum.inl (fail.1, fail.2.1, fail.2.2))))
      (fun fail2 =>
       some (Sum.inr (Sum.inr (fail2.1, fail2.2.1, fail2.2.2.1, fail2.2.2.2.1, fail2.2.2.2.2)))) x
     else
      (s_lex_scanner_put_v420 N leng.1 1 (List.drop (Int.toNat leng.2.2.1) (List.take (Int.toNat (leng.2.2.1 + leng.1)) leng.2.1)) (value_Value.mk 0 0 0 []) leng.2.1 leng.2.2.1 leng.2.2.2).bind fun put4 =>
      some (Sum.inl (put4.1, put4.2.1, put4.2.2))))))
def s_lex_scanner_length_v416_1 (N : Nat) (y : List UInt8) (y2 : Int) (xs : List lex_Token) (next0 : Int → Option (Int × List UInt8 × Int × List lex_Token)) (n : Int) : Option (Int × List UInt8 × Int × List lex_Token) :=
  gd (i64b (y2 + n)) (
  bif (ltB (y2 + n) (List.length y : Int)) then
   gd (i64b (y2 + n)) (
   (ix y (y2 + n)).bind fun c =>
   (s_lex_digit N (UInt8.toNat c : Int)).bind fun digi =>
   bif digi then
    gd (i64b (n + 1)) (
    next0 (n + 1))
   else
    some (n, y, y2, xs))
  else
   some (n, y, y2, xs))
def s_lex_scanner_length_v416 (N : Nat) (y : List UInt8) (y2 : Int) (xs : List lex_Token) : Option (Int × List UInt8 × Int × List lex_Token) :=
  lp1 (s_lex_scanner_length_v416_1 N y y2 xs) N 0
def s_value_OfInt (N : Nat) (n : Int) : Option value_Value :=
  some (value_Value.mk 1 (max (-4611686018427387904) (min n 4611686018427387904)) 0 [])
def s_lex_scanner_number_v558_1 (N : Nat) (n : Int) (x : Int) (y3 : List UInt8) (y4 : Int) (ys : List lex_Token) (next0 : Int → Int → Option ((List UInt8 × Int × List lex_Token) ⊕ (Int × Int × List UInt8 × Int × List lex_Token) ⊕ (List UInt8 × Int × List lex_Token))) (v : Int) (x2 : Int) : Option ((List UInt8 × Int × List lex_Token) ⊕ (Int × Int × List UInt8 × Int × List lex_Token) ⊕ (List UInt8 × Int × List lex_Token)) :=
  bif (ltB x2 x) then
   gd (i64b (y4 + x2)) (
   (ix y3 (y4 + x2)).bind fun c2 =>
   gd (i64b (4611686018427387904 - (IntKind.i64.wrap (IntKind.u8.wrap ((UInt8.toNat c2 : Int) - 48))))) (
   bif (ltB (IntKind.i64.wrap (Int.tdiv (4611686018427387904 - (IntKind.i64.wrap (IntKind.u8.wrap ((UInt8.toNat c2 : Int) - 48)))) 10)) v) then
    (s_lex_scanner_fail_v359 N 8 y3 y4 ys).bind fun x => Sum.elim
    (fun fail3 =>
     some (Sum.inl (fail3.1, fail3.2.1, fail3.2.2)))
    (fun fail4 =>
     some (Sum.inr (Sum.inl (fail4.1, fail4.2.1, fail4.2.2.1, fail4.2.2.2.1, fail4.2.2.2.2)))) x
   else
    gd (i64b (v * 10)) (
    gd (i64b ((v * 10) + (IntKind.i64.wrap (IntKind.u8.wrap ((UInt8.toNat c2 : Int) - 48))))) (
    gd (i64b (x2 + 1)) (
    next0 ((v * 10) + (IntKind.i64.wrap (IntKind.u8.wrap ((UInt8.toNat c2 : Int) - 48)))) (x2 + 1))))))
  else
   (s_value_OfInt N v).bind fun ofin =>
   (s_lex_scanner_put_v420 N n 3 [] ofin y3 y4 ys).bind fun put =>
   some (Sum.inr (Sum.inr (put.1, put.2.1, put.2.2)))
def s_lex_scanner_number_v558 (N : Nat) (y : List UInt8) (y2 : Int) (xs : List lex_Token) : Option ((List UInt8 × Int × List lex_Token) ⊕ (Int × Int × List UInt8 × Int × List lex_Token) ⊕ (List UInt8 × Int × List lex_Token)) :=
  (s_lex_scanner_length_v416 N y y2 xs).bind fun leng =>
  bif (ltB 1 leng.1) then
   (ix leng.2.1 leng.2.2.1).bind fun c =>
   bif ((UInt8.toNat c : Int) == 48) then
    (s_lex_scanner_fail_v359 N 4 leng.2.1 leng.2.2.1 leng.2.2.2).bind fun x => Sum.elim
    (fun fail =>
     some (Sum.inl (fail.1, fail.2.1, fail.2.2)))
    (fun fail2 =>
     some (Sum.inr (Sum.inl (fail2.1, fail2.2.1, fail2.2.2.1, fail2.2.2.2.1, fail2.2.2.2.2)))) x
   else
    lp2 (s_lex_scanner_number_v558_1 N leng.1 leng.1 leng.2.1 leng.2.2.1 leng.2.2.2) N 0 0
  else
   lp2 (s_lex_scanner_number_v558_1 N leng.1 leng.1 leng.2.1 leng.2.2.1 leng.2.2.2) N 0 0
def s_stringslite_IndexByte (N : Nat) (s : List UInt8) (c : Int) : Option Int :=
  some (Lib.indexByte s (UInt8.ofNat (Int.toNat c)))
def s_strings_IndexByte (N : Nat) (s : List UInt8) (c : Int) : Option Int :=
  (s_stringslite_IndexByte N s c).bind fun inde =>
  some inde
def s_lex_base16 (N : Nat) (c : Int) : Option Int :=
  (s_strings_IndexByte N [48, 49, 50, 51, 52, 53, 54, 55, 56, 57, 97, 98, 99, 100, 101, 102] c).bind fun inde =>
  some inde
def s_real_of (N : Nat) (u : Int) : Option Nat :=
  some (Int.toNat u)
def s_real_Clean (N : Nat) (u : Int) : Option Int :=
  (s_real_of N u).bind fun of =>
  bif (fcmpB .neq .f64 of of) then
   some 9221120237041090560
  else
   some u
def s_value_OfReal (N : Nat) (bits : Int) : Option value_Value :=
  (s_real_Clean N bits).bind fun clea =>
  some (value_Value.mk 3 0 clea [])
def s_lex_scanner_double_v558_1 (N : Nat) (y : List UInt8) (y2 : Int) (xs : List lex_Token) (next0 : Int → Int → Option ((List UInt8 × Int × List lex_Token) ⊕ (Int × Int × List UInt8 × Int × List lex_Token) ⊕ (List UInt8 × Int × List lex_Token))) (u : Int) (x : Int) : Option ((List UInt8 × Int × List lex_Token) ⊕ (Int × Int × List UInt8 × Int × List lex_Token) ⊕ (List UInt8 × Int × List lex_Token)) :=
  bif (ltB x 16) then
   gd (i64b (y2 + 1)) (
   gd (i64b ((y2 + 1) + x)) (
   (ix y ((y2 + 1) + x)).bind fun c =>
   (s_lex_base16 N (UInt8.toNat c : Int)).bind fun base =>
   bif (ltB base 0) then
    (s_lex_scanner_fail_v359 N 4 y y2 xs).bind fun x => Sum.elim
    (fun fail3 =>
     some (Sum.inl (fail3.1, fail3.2.1, fail3.2.2)))
    (fun fail4 =>
     some (Sum.inr (Sum.inl (fail4.1, fail4.2.1, fail4.2.2.1, fail4.2.2.2.1, fail4.2.2.2.2)))) x
   else
    gd (i64b (x + 1)) (
    next0 (bwO .u64 (IntKind.u64.wrap (u * 2 ^ 4)) (IntKind.u64.wrap base)) (x + 1))))
  else
   (s_real_Clean N u).bind fun clea =>
   bif (clea != u) then
    (s_lex_scanner_fail_v359 N 4 y y2 xs).bind fun x => Sum.elim
    (fun fail5 =>
     some (Sum.inl (fail5.1, fail5.2.1, fail5.2.2)))
    (fun fail6 =>
     some (Sum.inr (Sum.inl (fail6.1, fail6.2.1, fail6.2.2.1, fail6.2.2.2.1, fail6.2.2.2.2)))) x
   else
    (s_value_OfReal N u).bind fun ofre =>
    (s_lex_scanner_put_v420 N 17 3 [] ofre y y2 xs).bind fun put =>
    some (Sum.inr (Sum.inr (put.1, put.2.1, put.2.2)))
def s_lex_scanner_double_v558 (N : Nat) (y : List UInt8) (y2 : Int) (xs : List lex_Token) : Option ((List UInt8 × Int × List lex_Token) ⊕ (Int × Int × List UInt8 × Int × List lex_Token) ⊕ (List UInt8 × Int × List lex_Token)) :=
  gd (i64b ((List.length y : Int) - y2)) (
  bif (leB ((List.length y : Int) - y2) 16) then
   (s_lex_scanner_fail_v359 N 4 y y2 xs).bind fun x => Sum.elim
   (fun fail =>
    some (Sum.inl (fail.1, fail.2.1, fail.2.2)))
   (fun fail2 =>
    some (Sum.inr (Sum.inl (fail2.1, fail2.2.1, fail2.2.2.1, fail2.2.2.2.1, fail2.2.2.2.2)))) x
  else
   lp2 (s_lex_scanner_double_v558_1 N y y2 xs) N 0 0)
def s_lex_scanner_escaped_v359 (N : Nat) (vat : Int) (y : List UInt8) (y2 : Int) (xs : List lex_Token) : Option (Int × Bool × List UInt8 × Int × List lex_Token) :=
  gd (i64b ((List.length y : Int) - vat)) (
  bif (ltB ((List.length y : Int) - vat) 2) then
   some (0, false, y, y2, xs)
  else
   (ix y vat).bind fun c =>
   (s_lex_base16 N (UInt8.toNat c : Int)).bind fun base =>
   gd (i64b (vat + 1)) (
   (ix y (vat + 1)).bind fun c2 =>
   (s_lex_base16 N (UInt8.toNat c2 : Int)).bind fun base2 =>
   bif (leB 0 base) then
    some ((IntKind.u8.wrap (bwO .i64 (IntKind.i64.wrap (base * 2 ^ 4)) (bwA .i64 base2 15))), (leB 0 base2), y, y2, xs)
   else
    some ((IntKind.u8.wrap (bwO .i64 (IntKind.i64.wrap (base * 2 ^ 4)) (bwA .i64 base2 15))), false, y, y2, xs)))
def s_value_OfText (N : Nat) (s : List UInt8) : Option value_Value :=
  bif (ltB 24 (List.length s : Int)) then
   gd (leB 24 (List.length s : Int)) (
   some (value_Value.mk 4 0 0 (List.take 24 s)))
  else
   some (value_Value.mk 4 0 0 s)
def s_lex_scanner_quoted_v558_1 (N : Nat) (next0 : Int → (List UInt8) → Int → (List lex_Token) → (List Int) → Option ((List UInt8 × Int × List lex_Token) ⊕ (Int × Int × List UInt8 × Int × List lex_Token) ⊕ (List UInt8 × Int × List lex_Token))) (i : Int) (y3 : List UInt8) (y4 : Int) (ys : List lex_Token) (ys2 : List Int) : Option ((List UInt8 × Int × List lex_Token) ⊕ (Int × Int × List UInt8 × Int × List lex_Token) ⊕ (List UInt8 × Int × List lex_Token)) :=
  bif (ltB i (List.length y3 : Int)) then
   (ix y3 i).bind fun c =>
   bif (ltB (UInt8.toNat c : Int) 32) then
    (s_fault_New N 10 i).bind fun x => Sum.elim
    (fun new =>
     some (Sum.inl (y3, y4, ys)))
    (fun new2 =>
     some (Sum.inr (Sum.inl (new2.1, new2.2, y3, y4, ys)))) x
   else
    bif (ltB 126 (UInt8.toNat c : Int)) then
     (s_fault_New N 10 i).bind fun x => Sum.elim
     (fun new3 =>
      some (Sum.inl (y3, y4, ys)))
     (fun new4 =>
      some (Sum.inr (Sum.inl (new4.1, new4.2, y3, y4, ys)))) x
    else
     bif ((UInt8.toNat c : Int) == 92) then
      gd (i64b (i + 1)) (
      (s_lex_scanner_escaped_v359 N (i + 1) y3 y4 ys).bind fun esca =>
      bif (!esca.2.1) then
       (s_fault_New N 4 i).bind fun x => Sum.elim
       (fun new5 =>
        some (Sum.inl (esca.2.2.1, esca.2.2.2.1, esca.2.2.2.2)))
       (fun new6 =>
        some (Sum.inr (Sum.inl (new6.1, new6.2, esca.2.2.1, esca.2.2.2.1, esca.2.2.2.2)))) x
      else
       gd (Nat.ble ((List.length ys2 + 1) * 1) 140737488355328) (
       gd (i64b (i + 3)) (
       next0 (i + 3) esca.2.2.1 esca.2.2.2.1 esca.2.2.2.2 (ys2 ++ [esca.1]))))
     else
      bif ((UInt8.toNat c : Int) != 39) then
       gd (Nat.ble ((List.length ys2 + 1) * 1) 140737488355328) (
       gd (i64b (i + 1)) (
       next0 (i + 1) y3 y4 ys (ys2 ++ [(UInt8.toNat c : Int)])))
      else
       gd (i64b (i + 1)) (
       bif (ltB (i + 1) (List.length y3 : Int)) then
        gd (i64b (i + 1)) (
        (ix y3 (i + 1)).bind fun c2 =>
        bif ((UInt8.toNat c2 : Int) == 39) then
         gd (Nat.ble ((List.length ys2 + 1) * 1) 140737488355328) (
         gd (i64b (i + 2)) (
         next0 (i + 2) y3 y4 ys (ys2 ++ [(UInt8.toNat c : Int)])))
        else
         bif (ltB 24 (List.length ys2 : Int)) then
          (s_lex_scanner_fail_v359 N 5 y3 y4 ys).bind fun x => Sum.elim
          (fun fail =>
           some (Sum.inl (fail.1, fail.2.1, fail.2.2)))
          (fun fail2 =>
           some (Sum.inr (Sum.inl (fail2.1, fail2.2.1, fail2.2.2.1, fail2.2.2.2.1, fail2.2.2.2.2)))) x
         else
          gd (i64b (i + 1)) (
          gd (i64b ((i + 1) - y4)) (
          (s_value_OfText N (byS ys2)).bind fun ofte =>
          (s_lex_scanner_put_v420 N ((i + 1) - y4) 3 [] ofte y3 y4 ys).bind fun put =>
          some (Sum.inr (Sum.inr (put.1, put.2.1, put.2.2))))))
       else
        bif (ltB 24 (List.length ys2 : Int)) then
         (s_lex_scanner_fail_v359 N 5 y3 y4 ys).bind fun x => Sum.elim
         (fun fail3 =>
          some (Sum.inl (fail3.1, fail3.2.1, fail3.2.2)))
         (fun fail4 =>
          some (Sum.inr (Sum.inl (fail4.1, fail4.2.1, fail4.2.2.1, fail4.2.2.2.1, fail4.2.2.2.2)))) x
        else
         gd (i64b (i + 1)) (
         gd (i64b ((i + 1) - y4)) (
         (s_value_OfText N (byS ys2)).bind fun ofte2 =>
         (s_lex_scanner_put_v420 N ((i + 1) - y4) 3 [] ofte2 y3 y4 ys).bind fun put2 =>
         some (Sum.inr (Sum.inr (put2.1, put2.2.1, put2.2.2))))))
  else
   (s_lex_scanner_fail_v359 N 3 y3 y4 ys).bind fun x => Sum.elim
   (fun fail5 =>
    some (Sum.inl (fail5.1, fail5.2.1, fail5.2.2)))
   (fun fail6 =>
    some (Sum.inr (Sum.inl (fail6.1, fail6.2.1, fail6.2.2.1, fail6.2.2.2.1, fail6.2.2.2.2)))) x
def s_lex_scanner_quoted_v558 (N : Nat) (y : List UInt8) (y2 : Int) (xs : List lex_Token) : Option ((List UInt8 × Int × List lex_Token) ⊕ (Int × Int × List UInt8 × Int × List lex_Token) ⊕ (List UInt8 × Int × List lex_Token)) :=
  gd (i64b (y2 + 1)) (
  lp5 (s_lex_scanner_quoted_v558_1 N) N (y2 + 1) y y2 xs [])
def s_lex_scanner_sign_v558 (N : Nat) (y : List UInt8) (y2 : Int) (xs : List lex_Token) : Option (List UInt8 × Int × List lex_Token) :=
  (ix y y2).bind fun c =>
  (s_strings_IndexByte N [33, 60, 62] (UInt8.toNat c : Int)).bind fun inde =>
  bif (leB 0 inde) then
   gd (i64b (y2 + 1)) (
   bif (ltB (y2 + 1) (List.length y : Int)) then
    gd (i64b (y2 + 1)) (
    (ix y (y2 + 1)).bind fun c2 =>
    bif ((UInt8.toNat c2 : Int) == 61) then
     gd (i64b (y2 + 2)) (
     gd (leB 0 y2) (
     gd (leB y2 (y2 + 2)) (
     gd (leB (y2 + 2) (List.length y : Int)) (
     (s_lex_scanner_put_v420 N 2 4 (List.drop (Int.toNat y2) (List.take (Int.toNat (y2 + 2)) y)) (value_Value.mk 0 0 0 []) y y2 xs).bind fun put =>
     some (put.1, put.2.1, put.2.2)))))
    else
     gd (i64b (y2 + 1)) (
     gd (leB 0 y2) (
     gd (leB y2 (y2 + 1)) (
     gd (leB (y2 + 1) (List.length y : Int)) (
     (s_lex_scanner_put_v420 N 1 4 (List.drop (Int.toNat y2) (List.take (Int.toNat (y2 + 1)) y)) (value_Value.mk 0 0 0 []) y y2 xs).bind fun put2 =>
     some (put2.1, put2.2.1, put2.2.2))))))
   else
    gd (i64b (y2 + 1)) (
    gd (leB 0 y2) (
    gd (leB y2 (y2 + 1)) (
    gd (leB (y2 + 1) (List.length y : Int)) (
    (s_lex_scanner_put_v420 N 1 4 (List.drop (Int.toNat y2) (List.take (Int.toNat (y2 + 1)) y)) (value_Value.mk 0 0 0 []) y y2 xs).bind fun put3 =>
    some (put3.1, put3.2.1, put3.2.2))))))
  else
   gd (i64b (y2 + 1)) (
   gd (leB 0 y2) (
   gd (leB y2 (y2 + 1)) (
   gd (leB (y2 + 1) (List.length y : Int)) (
   (s_lex_scanner_put_v420 N 1 4 (List.drop (Int.toNat y2) (List.take (Int.toNat (y2 + 1)) y)) (value_Value.mk 0 0 0 []) y y2 xs).bind fun put4 =>
   some (put4.1, put4.2.1, put4.2.2)))))
def s_lex_scanner_token_v558 (N : Nat) (y : List UInt8) (y2 : Int) (xs : List lex_Token) : Option ((List UInt8 × Int × List lex_Token) ⊕ (Int × Int × List UInt8 × Int × List lex_Token) ⊕ (List UInt8 × Int × List lex_Token)) :=
  (ix y y2).bind fun c =>
  (s_lex_small N (UInt8.toNat c : Int)).bind fun smal =>
  bif smal then
   bif ((List.length xs : Int) == 200) then
    (s_lex_scanner_fail_v359 N 7 y y2 xs).bind fun x => Sum.elim
    (fun fail =>
     some (Sum.inl (fail.1, fail.2.1, fail.2.2)))
    (fun fail2 =>
     some (Sum.inr (Sum.inl (fail2.1, fail2.2.1, fail2.2.2.1, fail2.2.2.2.1, fail2.2.2.2.2)))) x
   else
    (s_lex_small N (UInt8.toNat c : Int)).bind fun smal2 =>
    bif smal2 then
     (s_lex_scanner_word_v558 N y y2 xs).bind fun x => Sum.elim
     (fun word =>
      some (Sum.inr (Sum.inr (word.1, word.2.1, word.2.2))))
     (Sum.elim
     (fun word2 =>
      some (Sum.inl (word2.1, word2.2.1, word2.2.2)))
     (fun word3 =>
      some (Sum.inr (Sum.inl (word3.1, word3.2.1, word3.2.2.1, word3.2.2.2.1, word3.2.2.2.2))))) x
    else
     (s_lex_digit N (UInt8.toNat c : Int)).bind fun digi =>
     bif digi then
      (s_lex_scanner_number_v558 N y y2 xs).bind fun x => Sum.elim
      (fun numb =>
       some (Sum.inl (numb.1, numb.2.1, numb.2.2)))
      (Sum.elim
      (fun numb2 =>
       some (Sum.inr (Sum.inl (numb2.1, numb2.2.1, numb2.2.2.1, numb2.2.2.2.1, numb2.2.2.2.2))))
      (fun numb3 =>
       some (Sum.inr (Sum.inr (numb3.1, numb3.2.1, numb3.2.2))))) x
     else
      bif ((UInt8.toNat c : Int) == 35) then
       (s_lex_scanner_double_v558 N y y2 xs).bind fun x => Sum.elim
       (fun doub =>
        some (Sum.inl (doub.1, doub.2.1, doub.2.2)))
       (Sum.elim
       (fun doub2 =>
        some (Sum.inr (Sum.inl (doub2.1, doub2.2.1, doub2.2.2.1, doub2.2.2.2.1, doub2.2.2.2.2))))
       (fun doub3 =>
        some (Sum.inr (Sum.inr (doub3.1, doub3.2.1, doub3.2.2))))) x
      else
       bif ((UInt8.toNat c : Int) == 39) then
        (s_lex_scanner_quoted_v558 N y y2 xs).bind fun x => Sum.elim
        (fun quot =>
         some (Sum.inl (quot.1, quot.2.1, quot.2.2)))
        (Sum.elim
        (fun quot2 =>
         some (Sum.inr (Sum.inl (quot2.1, quot2.2.1, quot2.2.2.1, quot2.2.2.2.1, quot2.2.2.2.2))))
        (fun quot3 =>
         some (Sum.inr (Sum.inr (quot3.1, quot3.2.1, quot3.2.2))))) x
       else
        (s_lex_scanner_sign_v558 N y y2 xs).bind fun sign =>
        some (Sum.inr (Sum.inr (sign.1, sign.2.1, sign.2.2)))
  else
   (s_lex_digit N (UInt8.toNat c : Int)).bind fun digi2 =>
   bif digi2 then
    bif ((List.length xs : Int) == 200) then
     (s_lex_scanner_fail_v359 N 7 y y2 xs).bind fun x => Sum.elim
     (fun fail3 =>
      some (Sum.inl (fail3.1, fail3.2.1, fail3.2.2)))
     (fun fail4 =>
      some (Sum.inr (Sum.inl (fail4.1, fail4.2.1, fail4.2.2.1, fail4.2.2.2.1, fail4.2.2.2.2)))) x
    else
     (s_lex_small N (UInt8.toNat c : Int)).bind fun smal3 =>
     bif smal3 then
      (s_lex_scanner_word_v558 N y y2 xs).bind fun x => Sum.elim
      (fun word4 =>
       some (Sum.inr (Sum.inr (word4.1, word4.2.1, word4.2.2))))
      (Sum.elim
      (fun word5 =>
       some (Sum.inl (word5.1, word5.2.1, word5.2.2)))
      (fun word6 =>
       some (Sum.inr (Sum.inl (word6.1, word6.2.1, word6.2.2.1, word6.2.2.2.1, word6.2.2.2.2))))) x
     else
      (s_lex_digit N (UInt8.toNat c : Int)).bind fun digi3 =>
      bif digi3 then
       (s_lex_scanner_number_v558 N y y2 xs).bind fun x => Sum.elim
       (fun numb4 =>
        some (Sum.inl (numb4.1, numb4.2.1, numb4.2.2)))
       (Sum.elim
       (fun numb5 =>
        some (Sum.inr (Sum.inl (numb5.1, numb5.2.1, numb5.2.2.1, numb5.2.2.2.1, numb5.2.2.2.2))))
       (fun numb6 =>
        some (Sum.inr (Sum.inr (numb6.1, numb6.2.1, numb6.2.2))))) x
      else
       bif ((UInt8.toNat c : Int) == 35) then
        (s_lex_scanner_double_v558 N y y2 xs).bind fun x => Sum.elim
        (fun doub4 =>
         some (Sum.inl (doub4.1, doub4.2.1, doub4.2.2)))
        (Sum.elim
        (fun doub5 =>
         some (Sum.inr (Sum.inl (doub5.1, doub5.2.1, doub5.2.2.1, doub5.2.2.2.1, doub5.2.2.2.2))))
        (fun doub6 =>
         some (Sum.inr (Sum.inr (doub6.1, doub6.2.1, doub6.2.2))))) x
       else
        bif ((UInt8.toNat c : Int) == 39) then
         (s_lex_scanner_quoted_v558 N y y2 xs).bind fun x => Sum.elim
         (fun quot4 =>
          some (Sum.inl (quot4.1, quot4.2.1, quot4.2.2)))
         (Sum.elim
         (fun quot5 =>
          some (Sum.inr (Sum.inl (quot5.1, quot5.2.1, quot5.2.2.1, quot5.2.2.2.1, quot5.2.2.2.2))))
         (fun quot6 =>
          some (Sum.inr (Sum.inr (quot6.1, quot6.2.1, quot6.2.2))))) x
        else
         (s_lex_scanner_sign_v558 N y y2 xs).bind fun sign2 =>
         some (Sum.inr (Sum.inr (sign2.1, sign2.2.1, sign2.2.2)))
   else
    bif ((UInt8.toNat c : Int) == 35) then
     bif ((List.length xs : Int) == 200) then
      (s_lex_scanner_fail_v359 N 7 y y2 xs).bind fun x => Sum.elim
      (fun fail5 =>
       some (Sum.inl (fail5.1, fail5.2.1, fail5.2.2)))
      (fun fail6 =>
       some (Sum.inr (Sum.inl (fail6.1, fail6.2.1, fail6.2.2.1, fail6.2.2.2.1, fail6.2.2.2.2)))) x
     else
      (s_lex_small N (UInt8.toNat c : Int)).bind fun smal4 =>
      bif smal4 then
       (s_lex_scanner_word_v558 N y y2 xs).bind fun x => Sum.elim
       (fun word7 =>
        some (Sum.inr (Sum.inr (word7.1, word7.2.1, word7.2.2))))
       (Sum.elim
       (fun word8 =>
        some (Sum.inl (word8.1, word8.2.1, word8.2.2)))
       (fun word9 =>
        some (Sum.inr (Sum.inl (word9.1, word9.2.1, word9.2.2.1, word9.2.2.2.1, word9.2.2.2.2))))) x
      else
       (s_lex_digit N (UInt8.toNat c : Int)).bind fun digi4 =>
       bif digi4 then
        (s_lex_scanner_number_v558 N y y2 xs).bind fun x => Sum.elim
        (fun numb7 =>
         some (Sum.inl (numb7.1, numb7.2.1, numb7.2.2)))
        (Sum.elim
        (fun numb8 =>
         some (Sum.inr (Sum.inl (numb8.1, numb8.2.1, numb8.2.2.1, numb8.2.2.2.1, numb8.2.2.2.2))))
        (fun numb9 =>
         some (Sum.inr (Sum.inr (numb9.1, numb9.2.1, numb9.2.2))))) x
       else
        bif ((UInt8.toNat c : Int) == 35) then
         (s_lex_scanner_double_v558 N y y2 xs).bind fun x => Sum.elim
         (fun doub7 =>
          some (Sum.inl (doub7.1, doub7.2.1, doub7.2.2)))
         (Sum.elim
         (fun doub8 =>
          some (Sum.inr (Sum.inl (doub8.1, doub8.2.1, doub8.2.2.1, doub8.2.2.2.1, doub8.2.2.2.2))))
         (fun doub9 =>
          some (Sum.inr (Sum.inr (doub9.1, doub9.2.1, doub9.2.2))))) x
        else
         bif ((UInt8.toNat c : Int) == 39) then
          (s_lex_scanner_quoted_v558 N y y2 xs).bind fun x => Sum.elim
          (fun quot7 =>
           some (Sum.inl (quot7.1, quot7.2.1, quot7.2.2)))
          (Sum.elim
          (fun quot8 =>
           some (Sum.inr (Sum.inl (quot8.1, quot8.2.1, quot8.2.2.1, quot8.2.2.2.1, quot8.2.2.2.2))))
          (fun quot9 =>
           some (Sum.inr (Sum.inr (quot9.1, quot9.2.1, quot9.2.2))))) x
         else
          (s_lex_scanner_sign_v558 N y y2 xs).bind fun sign3 =>
          some (Sum.inr (Sum.inr (sign3.1, sign3.2.1, sign3.2.2)))
    else
     bif ((UInt8.toNat c : Int) == 39) then
      bif ((List.length xs : Int) == 200) then
       (s_lex_scanner_fail_v359 N 7 y y2 xs).bind fun x => Sum.elim
       (fun fail7 =>
        some (Sum.inl (fail7.1, fail7.2.1, fail7.2.2)))
       (fun fail8 =>
        some (Sum.inr (Sum.inl (fail8.1, fail8.2.1, fail8.2.2.1, fail8.2.2.2.1, fail8.2.2.2.2)))) x
      else
       (s_lex_small N (UInt8.toNat c : Int)).bind fun smal5 =>
       bif smal5 then
        (s_lex_scanner_word_v558 N y y2 xs).bind fun x => Sum.elim
        (fun word10 =>
         some (Sum.inr (Sum.inr (word10.1, word10.2.1, word10.2.2))))
        (Sum.elim
        (fun word11 =>
         some (Sum.inl (word11.1, word11.2.1, word11.2.2)))
        (fun word12 =>
         some (Sum.inr (Sum.inl (word12.1, word12.2.1, word12.2.2.1, word12.2.2.2.1, word12.2.2.2.2))))) x
       else
        (s_lex_digit N (UInt8.toNat c : Int)).bind fun digi5 =>
        bif digi5 then
         (s_lex_scanner_number_v558 N y y2 xs).bind fun x => Sum.elim
         (fun numb10 =>
          some (Sum.inl (numb10.1, numb10.2.1, numb10.2.2)))
         (Sum.elim
         (fun numb11 =>
          some (Sum.inr (Sum.inl (numb11.1, numb11.2.1, numb11.2.2.1, numb11.2.2.2.1, numb11.2.2.2.2))))
         (fun numb12 =>
          some (Sum.inr (Sum.inr (numb12.1, numb12.2.1, numb12.2.2))))) x
        else
         bif ((UInt8.toNat c : Int) == 35) then
          (s_lex_scanner_double_v558 N y y2 xs).bind fun x => Sum.elim
          (fun doub10 =>
           some (Sum.inl (doub10.1, doub10.2.1, doub10.2.2)))
          (Sum.elim
          (fun doub11 =>
           some (Sum.inr (Sum.inl (doub11.1, doub11.2.1, doub11.2.2.1, doub11.2.2.2.1, doub11.2.2.2.2))))
          (fun doub12 =>
           some (Sum.inr (Sum.inr (doub12.1, doub12.2.1, doub12.2.2))))) x
         else
          bif ((UInt8.toNat c : Int) == 39) then
           (s_lex_scanner_quoted_v558 N y y2 xs).bind fun x => Sum.elim
           (fun quot10 =>
            some (Sum.inl (quot10.1, quot10.2.1, quot10.2.2)))
           (Sum.elim
           (fun quot11 =>
            some (Sum.inr (Sum.inl (quot11.1, quot11.2.1, quot11.2.2.1, quot11.2.2.2.1, quot11.2.2.2.2))))
           (fun quot12 =>
            some (Sum.inr (Sum.inr (quot12.1, quot12.2.1, quot12.2.2))))) x
          else
           (s_lex_scanner_sign_v558 N y y2 xs).bind fun sign4 =>
           some (Sum.inr (Sum.inr (sign4.1, sign4.2.1, sign4.2.2)))
     else
      (s_strings_IndexByte N [40, 41, 91, 93, 123, 125, 59, 124, 33, 58, 44, 46, 43, 42, 63, 45, 61, 60, 62] (UInt8.toNat c : Int)).bind fun inde =>
      bif (!(leB 0 inde)) then
       (s_lex_scanner_fail_v359 N 10 y y2 xs).bind fun x => Sum.elim
       (fun fail9 =>
        some (Sum.inl (fail9.1, fail9.2.1, fail9.2.2)))
       (fun fail10 =>
        some (Sum.inr (Sum.inl (fail10.1, fail10.2.1, fail10.2.2.1, fail10.2.2.2.1, fail10.2.2.2.2)))) x
      else
       bif ((List.length xs : Int) == 200) then
        (s_lex_scanner_fail_v359 N 7 y y2 xs).bind fun x => Sum.elim
        (fun fail11 =>
         some (Sum.inl (fail11.1, fail11.2.1, fail11.2.2)))
        (fun fail12 =>
         some (Sum.inr (Sum.inl (fail12.1, fail12.2.1, fail12.2.2.1, fail12.2.2.2.1, fail12.2.2.2.2)))) x
       else
        (s_lex_small N (UInt8.toNat c : Int)).bind fun smal6 =>
        bif smal6 then
         (s_lex_scanner_word_v558 N y y2 xs).bind fun x => Sum.elim
         (fun word13 =>
          some (Sum.inr (Sum.inr (word13.1, word13.2.1, word13.2.2))))
         (Sum.elim
         (fun word14 =>
          some (Sum.inl (word14.1, word14.2.1, word14.2.2)))
         (fun word15 =>
          some (Sum.inr (Sum.inl (word15.1, word15.2.1, word15.2.2.1, word15.2.2.2.1, word15.2.2.2.2))))) x
        else
         (s_lex_digit N (UInt8.toNat c : Int)).bind fun digi6 =>
         bif digi6 then
          (s_lex_scanner_number_v558 N y y2 xs).bind fun x => Sum.elim
          (fun numb13 =>
           some (Sum.inl (numb13.1, numb13.2.1, numb13.2.2)))
          (Sum.elim
          (fun numb14 =>
           some (Sum.inr (Sum.inl (numb14.1, numb14.2.1, numb14.2.2.1, numb14.2.2.2.1, numb14.2.2.2.2))))
          (fun numb15 =>
           some (Sum.inr (Sum.inr (numb15.1, numb15.2.1, numb15.2.2))))) x
         else
          bif ((UInt8.toNat c : Int) == 35) then
           (s_lex_scanner_double_v558 N y y2 xs).bind fun x => Sum.elim
           (fun doub13 =>
            some (Sum.inl (doub13.1, doub13.2.1, doub13.2.2)))
           (Sum.elim
           (fun doub14 =>
            some (Sum.inr (Sum.inl (doub14.1, doub14.2.1, doub14.2.2.1, doub14.2.2.2.1, doub14.2.2.2.2))))
           (fun doub15 =>
            some (Sum.inr (Sum.inr (doub15.1, doub15.2.1, doub15.2.2))))) x
          else
           bif ((UInt8.toNat c : Int) == 39) then
            (s_lex_scanner_quoted_v558 N y y2 xs).bind fun x => Sum.elim
            (fun quot13 =>
             some (Sum.inl (quot13.1, quot13.2.1, quot13.2.2)))
            (Sum.elim
            (fun quot14 =>
             some (Sum.inr (Sum.inl (quot14.1, quot14.2.1, quot14.2.2.1, quot14.2.2.2.1, quot14.2.2.2.2))))
            (fun quot15 =>
             some (Sum.inr (Sum.inr (quot15.1, quot15.2.1, quot15.2.2))))) x
           else
            (s_lex_scanner_sign_v558 N y y2 xs).bind fun sign5 =>
            some (Sum.inr (Sum.inr (sign5.1, sign5.2.1, sign5.2.2)))
def s_lex_Scan_1 (N : Nat) (s : List UInt8) (next0 : (List UInt8) → Int → (List lex_Token) → Option ((List lex_Token) ⊕ (List lex_Token × Int × Int))) (y : List UInt8) (y2 : Int) (ys : List lex_Token) : Option ((List lex_Token) ⊕ (List lex_Token × Int × Int)) :=
  bif (ltB y2 (List.length s : Int)) then
   (ix s y2).bind fun c =>
   bif ((UInt8.toNat c : Int) == 32) then
    gd (i64b (y2 + 1)) (
    next0 y (y2 + 1) ys)
   else
    bif ((UInt8.toNat c : Int) == 9) then
     gd (i64b (y2 + 1)) (
     next0 y (y2 + 1) ys)
    else
     bif ((UInt8.toNat c : Int) == 10) then
      gd (i64b (y2 + 1)) (
      next0 y (y2 + 1) ys)
     else
      (s_lex_scanner_token_v558 N y y2 ys).bind fun x => Sum.elim
      (fun toke =>
       next0 toke.1 toke.2.1 toke.2.2)
      (Sum.elim
      (fun toke2 =>
       some (Sum.inr ([], toke2.1, toke2.2.1)))
      (fun toke3 =>
       next0 toke3.1 toke3.2.1 toke3.2.2)) x
  else
   some (Sum.inl ys)
def s_lex_Scan (N : Nat) (s : List UInt8) : Option ((List lex_Token) ⊕ (List lex_Token × Int × Int)) :=
  bif (ltB 600 (List.length s : Int)) then
   (s_fault_New N 5 0).bind fun x => Sum.elim
   (fun new =>
    some (Sum.inl []))
   (fun new2 =>
    some (Sum.inr ([], new2.1, new2.2))) x
  else
   lp3 (s_lex_Scan_1 N s) N s 0 []
def s_fault_Code_n (N : Nat) : Option Int :=
  some 0
def s_fault_find_n (N : Nat) : Option Unit := some ()
def s_fault_At_n (N : Nat) : Option Int :=
  (s_fault_find_n N).bind fun find =>
  some 0
def s_value_core (N : Nat) (v : value_Value) : Option (Int ⊕ Int ⊕ Int ⊕ (List UInt8) ⊕ Unit) :=
  bif (v.Kind == 1) then
   some (Sum.inl v.N)
  else
   bif (v.Kind == 2) then
    some (Sum.inr (Sum.inl v.N))
   else
    bif (v.Kind == 3) then
     some (Sum.inr (Sum.inr (Sum.inl v.Bits)))
    else
     bif (v.Kind == 4) then
      some (Sum.inr (Sum.inr (Sum.inr (Sum.inl v.Text))))
     else
      some (Sum.inr (Sum.inr (Sum.inr (Sum.inr ()))))
def s_value_number_whole (N : Nat) (n : Int) : Option value_Value :=
  some (value_Value.mk 1 n 0 [])
def s_value_flag_whole (N : Nat) (n : Int) : Option value_Value :=
  some (value_Value.mk 2 n 0 [])
def s_value_double_whole (N : Nat) (u : Int) : Option value_Value :=
  some (value_Value.mk 3 0 u [])
def s_value_words_whole (N : Nat) (s : List UInt8) : Option value_Value :=
  some (value_Value.mk 4 0 0 s)
def s_value_Check (N : Nat) (v : value_Value) : Option Int :=
  (s_value_core N v).bind fun x => Sum.elim
  (fun core =>
   bif (ltB core (-4611686018427387904)) then
    some 8
   else
    bif (ltB 4611686018427387904 core) then
     some 8
    else
     (s_value_number_whole N core).bind fun whol =>
     bif (!((whol.Kind == v.Kind) && ((whol.N == v.N) && ((whol.Bits == v.Bits) && (whol.Text == v.Text))))) then
      some 2
     else
      some 0)
  (Sum.elim
  (fun core2 =>
   bif (core2 != 0) then
    bif (core2 != 1) then
     some 8
    else
     (s_value_flag_whole N core2).bind fun whol2 =>
     bif (!((whol2.Kind == v.Kind) && ((whol2.N == v.N) && ((whol2.Bits == v.Bits) && (whol2.Text == v.Text))))) then
      some 2
     else
      some 0
   else
    (s_value_flag_whole N core2).bind fun whol3 =>
    bif (!((whol3.Kind == v.Kind) && ((whol3.N == v.N) && ((whol3.Bits == v.Bits) && (whol3.Text == v.Text))))) then
     some 2
    else
     some 0)
  (Sum.elim
  (fun core3 =>
   (s_real_Clean N core3).bind fun clea =>
   bif (clea != core3) then
    some 4
   else
    (s_value_double_whole N core3).bind fun whol4 =>
    bif (!((whol4.Kind == v.Kind) && ((whol4.N == v.N) && ((whol4.Bits == v.Bits) && (whol4.Text == v.Text))))) then
     some 2
    else
     some 0)
  (Sum.elim
  (fun core4 =>
   bif (ltB 24 (List.length core4 : Int)) then
    some 5
   else
    (s_value_words_whole N core4).bind fun whol5 =>
    bif (!((whol5.Kind == v.Kind) && ((whol5.N == v.N) && ((whol5.Bits == v.Bits) && (whol5.Text == v.Text))))) then
     some 2
    else
     some 0)
  (fun core5 =>
   some 11)))) x
def dgF : Nat → Nat → List UInt8
  | 0, _ => []
  | f + 1, m => (if m / 10 = 0 then [] else dgF f (m / 10)) ++ [UInt8.ofNat (48 + m % 10)]
def whS (n : Int) : List UInt8 := (if n < 0 then [45] else []) ++ dgF 20 n.natAbs
def s_lex_whole (N : Nat) (n : Int) : Option (List UInt8) := gd (leB (-4611686018427387904) n && leB n 4611686018427387904) (some (whS n))
def hexB (n : Nat) : UInt8 := if n < 10 then UInt8.ofNat (48 + n) else UInt8.ofNat (87 + n)
def hxS : Nat → Nat → List UInt8
  | 0, _ => []
  | k + 1, u => hexB (u / 16 ^ k % 16) :: hxS k u
def bitS (u : Nat) : List UInt8 := 35 :: hxS 16 u
def s_lex_bits (N : Nat) (u : Int) : Option (List UInt8) := gd (leB 0 u && ltB u 18446744073709551616) (some (bitS u.toNat))
def txC (c : UInt8) : List UInt8 := if c = 39 then [39, 39] else if c < 32 ∨ 126 < c ∨ c = 92 then [92, hexB (c.toNat / 16), hexB (c.toNat % 16)] else [c]
def txS (s : List UInt8) : List UInt8 := [39] ++ s.flatMap txC ++ [39]
def s_lex_text (N : Nat) (s : List UInt8) : Option (List UInt8) := gd (Nat.ble s.length 10000000000) (some (txS s))
def s_lex_Literal (N : Nat) (v : value_Value) : Option (List UInt8) :=
  (s_value_Check N v).bind fun chec =>
  bif (chec != 0) then
   some []
  else
   bif (v.Kind == 1) then
    (s_lex_whole N v.N).bind fun whol =>
    some whol
   else
    bif (v.Kind == 2) then
     bif (v.N == 0) then
      some [102, 97, 108, 115, 101]
     else
      some [116, 114, 117, 101]
    else
     bif (v.Kind == 3) then
      (s_lex_bits N v.Bits).bind fun bits =>
      some bits
     else
      (s_lex_text N v.Text).bind fun text =>
      some text
def s_lex_Word (N : Nat) (t : lex_Token) : Option (List UInt8) :=
  bif (t.Kind == 1) then
   bif (t.Kind == 1) then
    some t.Text
   else
    bif (t.Kind == 3) then
     (s_lex_Literal N t.Val).bind fun lite =>
     some lite
    else
     some []
  else
   bif (t.Kind == 2) then
    bif (t.Kind == 2) then
     some t.Text
    else
     bif (t.Kind == 3) then
      (s_lex_Literal N t.Val).bind fun lite2 =>
      some lite2
     else
      some []
   else
    bif (t.Kind == 4) then
     some t.Text
    else
     bif (t.Kind == 3) then
      (s_lex_Literal N t.Val).bind fun lite3 =>
      some lite3
     else
      some []
def s_strings_Join (N : Nat) (elems : List (List UInt8)) (sep : List UInt8) : Option (List UInt8) := gd (Nat.ble (sep.intercalate elems).length 140737488355328 && Nat.ble elems.length 140737488355328) (some (sep.intercalate elems))
def s_lex_Print_1 (N : Nat) (l : List lex_Token) (x : Int) (next0 : Int → (List (List UInt8)) → Option (List UInt8)) (x2 : Int) (ys : List (List UInt8)) : Option (List UInt8) :=
  bif (ltB x2 x) then
   (ix l x2).bind fun e =>
   (s_lex_Word N e).bind fun word =>
   gd (Nat.ble ((List.length ys + 1) * 16) 140737488355328) (
   gd (i64b (x2 + 1)) (
   next0 (x2 + 1) (ys ++ [word])))
  else
   (s_strings_Join N ys [32]).bind fun join =>
   some join
def s_lex_Print (N : Nat) (l : List lex_Token) : Option (List UInt8) :=
  lp2 (s_lex_Print_1 N l (List.length l : Int)) N 0 []
def s_fault_find_f (N : Nat) (e p : Int) : Option (Int × Int) := some (e, p)
def s_fault_Code_f (N : Nat) (err : Int) (err2 : Int) : Option Int :=
  (s_fault_find_f N err err2).bind fun find =>
  some find.1
def s_fault_At_f (N : Nat) (err : Int) (err2 : Int) : Option Int :=
  (s_fault_find_f N err err2).bind fun find =>
  some find.2
def s_law10_awake (N : Nat) : Option Bool := bif Nat.ble 64 N then some true else none
def s_law10_Own_1 (N : Nat) (l : List lex_Token) (next0 : Int → (List lex_Token) → Option (List lex_Token)) (i : Int) (ys : List lex_Token) : Option (List lex_Token) :=
  bif (ltB i (List.length l : Int)) then
   (ix l i).bind fun e =>
   (ix l i).bind fun e2 =>
   (ix l i).bind fun e3 =>
   (ix l i).bind fun e4 =>
   gd (Nat.ble ((List.length ys + 1) * 72) 140737488355328) (
   gd (i64b (i + 1)) (
   next0 (i + 1) (ys ++ [(lex_Token.mk e.Kind e2.At e3.Text e4.Val)])))
  else
   some ys
def s_law10_Own (N : Nat) (l : List lex_Token) : Option (List lex_Token) :=
  lp2 (s_law10_Own_1 N l) N 0 []
def s_ref03_Exp (N : Nat) (u : Int) : Option Int :=
  some (IntKind.i64.wrap (Int.tmod (IntKind.u64.wrap (Int.tdiv u 4503599627370496)) 2048))
def s_ref03_Frac (N : Nat) (u : Int) : Option Int :=
  some (Int.tmod u 4503599627370496)
def s_ref03_Kind (N : Nat) (u : Int) : Option Int :=
  (s_ref03_Exp N u).bind fun exp =>
  bif (exp == 2047) then
   (s_ref03_Frac N u).bind fun frac =>
   bif (frac != 0) then
    some 5
   else
    (s_ref03_Exp N u).bind fun exp2 =>
    bif (exp2 == 2047) then
     some 4
    else
     (s_ref03_Exp N u).bind fun exp3 =>
     bif (exp3 != 0) then
      some 3
     else
      (s_ref03_Frac N u).bind fun frac2 =>
      bif (frac2 != 0) then
       some 2
      else
       some 1
  else
   (s_ref03_Exp N u).bind fun exp4 =>
   bif (exp4 == 2047) then
    some 4
   else
    (s_ref03_Exp N u).bind fun exp5 =>
    bif (exp5 != 0) then
     some 3
    else
     (s_ref03_Frac N u).bind fun frac3 =>
     bif (frac3 != 0) then
      some 2
     else
      some 1
def s_ref03_Clean (N : Nat) (u : Int) : Option Int :=
  (s_ref03_Kind N u).bind fun kind =>
  bif (kind == 5) then
   some 9221120237041090560
  else
   some u
def s_ref04_Check (N : Nat) (v : value_Value) : Option Int :=
  bif (ltB v.Kind 1) then
   some 11
  else
   bif (ltB 4 v.Kind) then
    some 11
   else
    bif (v.Kind == 1) then
     bif (ltB v.N (-4611686018427387904)) then
      some 8
     else
      bif (ltB 4611686018427387904 v.N) then
       some 8
      else
       bif (v.Kind == 2) then
        bif (ltB v.N 0) then
         some 8
        else
         bif (ltB 1 v.N) then
          some 8
         else
          bif (v.Kind == 3) then
           (s_ref03_Clean N v.Bits).bind fun clea =>
           bif (clea != v.Bits) then
            some 4
           else
            bif (v.Kind == 4) then
             bif (ltB 24 (List.length v.Text : Int)) then
              some 5
             else
              bif (ltB 2 v.Kind) then
               bif (v.N != 0) then
                some 2
               else
                bif (v.Kind != 3) then
                 bif (v.Bits != 0) then
                  some 2
                 else
                  bif (v.Kind != 4) then
                   bif (!(v.Text == [])) then
                    some 2
                   else
                    some 0
                  else
                   some 0
                else
                 bif (v.Kind != 4) then
                  bif (!(v.Text == [])) then
                   some 2
                  else
                   some 0
                 else
                  some 0
              else
               bif (v.Kind != 3) then
                bif (v.Bits != 0) then
                 some 2
                else
                 bif (v.Kind != 4) then
                  bif (!(v.Text == [])) then
                   some 2
                  else
                   some 0
                 else
                  some 0
               else
                bif (v.Kind != 4) then
                 bif (!(v.Text == [])) then
                  some 2
                 else
                  some 0
                else
                 some 0
            else
             bif (ltB 2 v.Kind) then
              bif (v.N != 0) then
               some 2
              else
               bif (v.Kind != 3) then
                bif (v.Bits != 0) then
                 some 2
                else
                 bif (v.Kind != 4) then
                  bif (!(v.Text == [])) then
                   some 2
                  else
                   some 0
                 else
                  some 0
               else
                bif (v.Kind != 4) then
                 bif (!(v.Text == [])) then
                  some 2
                 else
                  some 0
                else
                 some 0
             else
              bif (v.Kind != 3) then
               bif (v.Bits != 0) then
                some 2
               else
                bif (v.Kind != 4) then
                 bif (!(v.Text == [])) then
                  some 2
                 else
                  some 0
                else
                 some 0
              else
               bif (v.Kind != 4) then
                bif (!(v.Text == [])) then
                 some 2
                else
                 some 0
               else
                some 0
          else
           bif (v.Kind == 4) then
            bif (ltB 24 (List.length v.Text : Int)) then
             some 5
            else
             bif (ltB 2 v.Kind) then
              bif (v.N != 0) then
               some 2
              else
               bif (v.Kind != 3) then
                bif (v.Bits != 0) then
                 some 2
                else
                 bif (v.Kind != 4) then
                  bif (!(v.Text == [])) then
                   some 2
                  else
                   some 0
                 else
                  some 0
               else
                bif (v.Kind != 4) then
                 bif (!(v.Text == [])) then
                  some 2
                 else
                  some 0
                else
                 some 0
             else
              bif (v.Kind != 3) then
               bif (v.Bits != 0) then
                some 2
               else
                bif (v.Kind != 4) then
                 bif (!(v.Text == [])) then
                  some 2
                 else
                  some 0
                else
                 some 0
              else
               bif (v.Kind != 4) then
                bif (!(v.Text == [])) then
                 some 2
                else
                 some 0
               else
                some 0
           else
            bif (ltB 2 v.Kind) then
             bif (v.N != 0) then
              some 2
             else
              bif (v.Kind != 3) then
               bif (v.Bits != 0) then
                some 2
               else
                bif (v.Kind != 4) then
                 bif (!(v.Text == [])) then
                  some 2
                 else
                  some 0
                else
                 some 0
              else
               bif (v.Kind != 4) then
                bif (!(v.Text == [])) then
                 some 2
                else
                 some 0
               else
                some 0
            else
             bif (v.Kind != 3) then
              bif (v.Bits != 0) then
               some 2
              else
               bif (v.Kind != 4) then
                bif (!(v.Text == [])) then
                 some 2
                else
                 some 0
               else
                some 0
             else
              bif (v.Kind != 4) then
               bif (!(v.Text == [])) then
                some 2
               else
                some 0
              else
               some 0
       else
        bif (v.Kind == 3) then
         (s_ref03_Clean N v.Bits).bind fun clea2 =>
         bif (clea2 != v.Bits) then
          some 4
         else
          bif (v.Kind == 4) then
           bif (ltB 24 (List.length v.Text : Int)) then
            some 5
           else
            bif (ltB 2 v.Kind) then
             bif (v.N != 0) then
              some 2
             else
              bif (v.Kind != 3) then
               bif (v.Bits != 0) then
                some 2
               else
                bif (v.Kind != 4) then
                 bif (!(v.Text == [])) then
                  some 2
                 else
                  some 0
                else
                 some 0
              else
               bif (v.Kind != 4) then
                bif (!(v.Text == [])) then
                 some 2
                else
                 some 0
               else
                some 0
            else
             bif (v.Kind != 3) then
              bif (v.Bits != 0) then
               some 2
              else
               bif (v.Kind != 4) then
                bif (!(v.Text == [])) then
                 some 2
                else
                 some 0
               else
                some 0
             else
              bif (v.Kind != 4) then
               bif (!(v.Text == [])) then
                some 2
               else
                some 0
              else
               some 0
          else
           bif (ltB 2 v.Kind) then
            bif (v.N != 0) then
             some 2
            else
             bif (v.Kind != 3) then
              bif (v.Bits != 0) then
               some 2
              else
               bif (v.Kind != 4) then
                bif (!(v.Text == [])) then
                 some 2
                else
                 some 0
               else
                some 0
             else
              bif (v.Kind != 4) then
               bif (!(v.Text == [])) then
                some 2
               else
                some 0
              else
               some 0
           else
            bif (v.Kind != 3) then
             bif (v.Bits != 0) then
              some 2
             else
              bif (v.Kind != 4) then
               bif (!(v.Text == [])) then
                some 2
               else
                some 0
              else
               some 0
            else
             bif (v.Kind != 4) then
              bif (!(v.Text == [])) then
               some 2
              else
               some 0
             else
              some 0
        else
         bif (v.Kind == 4) then
          bif (ltB 24 (List.length v.Text : Int)) then
           some 5
          else
           bif (ltB 2 v.Kind) then
            bif (v.N != 0) then
             some 2
            else
             bif (v.Kind != 3) then
              bif (v.Bits != 0) then
               some 2
              else
               bif (v.Kind != 4) then
                bif (!(v.Text == [])) then
                 some 2
                else
                 some 0
               else
                some 0
             else
              bif (v.Kind != 4) then
               bif (!(v.Text == [])) then
                some 2
               else
                some 0
              else
               some 0
           else
            bif (v.Kind != 3) then
             bif (v.Bits != 0) then
              some 2
             else
              bif (v.Kind != 4) then
               bif (!(v.Text == [])) then
                some 2
               else
                some 0
              else
               some 0
            else
             bif (v.Kind != 4) then
              bif (!(v.Text == [])) then
               some 2
              else
               some 0
             else
              some 0
         else
          bif (ltB 2 v.Kind) then
           bif (v.N != 0) then
            some 2
           else
            bif (v.Kind != 3) then
             bif (v.Bits != 0) then
              some 2
             else
              bif (v.Kind != 4) then
               bif (!(v.Text == [])) then
                some 2
               else
                some 0
              else
               some 0
            else
             bif (v.Kind != 4) then
              bif (!(v.Text == [])) then
               some 2
              else
               some 0
             else
              some 0
          else
           bif (v.Kind != 3) then
            bif (v.Bits != 0) then
             some 2
            else
             bif (v.Kind != 4) then
              bif (!(v.Text == [])) then
               some 2
              else
               some 0
             else
              some 0
           else
            bif (v.Kind != 4) then
             bif (!(v.Text == [])) then
              some 2
             else
              some 0
            else
             some 0
    else
     bif (v.Kind == 2) then
      bif (ltB v.N 0) then
       some 8
      else
       bif (ltB 1 v.N) then
        some 8
       else
        bif (v.Kind == 3) then
         (s_ref03_Clean N v.Bits).bind fun clea3 =>
         bif (clea3 != v.Bits) then
          some 4
         else
          bif (v.Kind == 4) then
           bif (ltB 24 (List.length v.Text : Int)) then
            some 5
           else
            bif (ltB 2 v.Kind) then
             bif (v.N != 0) then
              some 2
             else
              bif (v.Kind != 3) then
               bif (v.Bits != 0) then
                some 2
               else
                bif (v.Kind != 4) then
                 bif (!(v.Text == [])) then
                  some 2
                 else
                  some 0
                else
                 some 0
              else
               bif (v.Kind != 4) then
                bif (!(v.Text == [])) then
                 some 2
                else
                 some 0
               else
                some 0
            else
             bif (v.Kind != 3) then
              bif (v.Bits != 0) then
               some 2
              else
               bif (v.Kind != 4) then
                bif (!(v.Text == [])) then
                 some 2
                else
                 some 0
               else
                some 0
             else
              bif (v.Kind != 4) then
               bif (!(v.Text == [])) then
                some 2
               else
                some 0
              else
               some 0
          else
           bif (ltB 2 v.Kind) then
            bif (v.N != 0) then
             some 2
            else
             bif (v.Kind != 3) then
              bif (v.Bits != 0) then
               some 2
              else
               bif (v.Kind != 4) then
                bif (!(v.Text == [])) then
                 some 2
                else
                 some 0
               else
                some 0
             else
              bif (v.Kind != 4) then
               bif (!(v.Text == [])) then
                some 2
               else
                some 0
              else
               some 0
           else
            bif (v.Kind != 3) then
             bif (v.Bits != 0) then
              some 2
             else
              bif (v.Kind != 4) then
               bif (!(v.Text == [])) then
                some 2
               else
                some 0
              else
               some 0
            else
             bif (v.Kind != 4) then
              bif (!(v.Text == [])) then
               some 2
              else
               some 0
             else
              some 0
        else
         bif (v.Kind == 4) then
          bif (ltB 24 (List.length v.Text : Int)) then
           some 5
          else
           bif (ltB 2 v.Kind) then
            bif (v.N != 0) then
             some 2
            else
             bif (v.Kind != 3) then
              bif (v.Bits != 0) then
               some 2
              else
               bif (v.Kind != 4) then
                bif (!(v.Text == [])) then
                 some 2
                else
                 some 0
               else
                some 0
             else
              bif (v.Kind != 4) then
               bif (!(v.Text == [])) then
                some 2
               else
                some 0
              else
               some 0
           else
            bif (v.Kind != 3) then
             bif (v.Bits != 0) then
              some 2
             else
              bif (v.Kind != 4) then
               bif (!(v.Text == [])) then
                some 2
               else
                some 0
              else
               some 0
            else
             bif (v.Kind != 4) then
              bif (!(v.Text == [])) then
               some 2
              else
               some 0
             else
              some 0
         else
          bif (ltB 2 v.Kind) then
           bif (v.N != 0) then
            some 2
           else
            bif (v.Kind != 3) then
             bif (v.Bits != 0) then
              some 2
             else
              bif (v.Kind != 4) then
               bif (!(v.Text == [])) then
                some 2
               else
                some 0
              else
               some 0
            else
             bif (v.Kind != 4) then
              bif (!(v.Text == [])) then
               some 2
              else
               some 0
             else
              some 0
          else
           bif (v.Kind != 3) then
            bif (v.Bits != 0) then
             some 2
            else
             bif (v.Kind != 4) then
              bif (!(v.Text == [])) then
               some 2
              else
               some 0
             else
              some 0
           else
            bif (v.Kind != 4) then
             bif (!(v.Text == [])) then
              some 2
             else
              some 0
            else
             some 0
     else
      bif (v.Kind == 3) then
       (s_ref03_Clean N v.Bits).bind fun clea4 =>
       bif (clea4 != v.Bits) then
        some 4
       else
        bif (v.Kind == 4) then
         bif (ltB 24 (List.length v.Text : Int)) then
          some 5
         else
          bif (ltB 2 v.Kind) then
           bif (v.N != 0) then
            some 2
           else
            bif (v.Kind != 3) then
             bif (v.Bits != 0) then
              some 2
             else
              bif (v.Kind != 4) then
               bif (!(v.Text == [])) then
                some 2
               else
                some 0
              else
               some 0
            else
             bif (v.Kind != 4) then
              bif (!(v.Text == [])) then
               some 2
              else
               some 0
             else
              some 0
          else
           bif (v.Kind != 3) then
            bif (v.Bits != 0) then
             some 2
            else
             bif (v.Kind != 4) then
              bif (!(v.Text == [])) then
               some 2
              else
               some 0
             else
              some 0
           else
            bif (v.Kind != 4) then
             bif (!(v.Text == [])) then
              some 2
             else
              some 0
            else
             some 0
        else
         bif (ltB 2 v.Kind) then
          bif (v.N != 0) then
           some 2
          else
           bif (v.Kind != 3) then
            bif (v.Bits != 0) then
             some 2
            else
             bif (v.Kind != 4) then
              bif (!(v.Text == [])) then
               some 2
              else
               some 0
             else
              some 0
           else
            bif (v.Kind != 4) then
             bif (!(v.Text == [])) then
              some 2
             else
              some 0
            else
             some 0
         else
          bif (v.Kind != 3) then
           bif (v.Bits != 0) then
            some 2
           else
            bif (v.Kind != 4) then
             bif (!(v.Text == [])) then
              some 2
             else
              some 0
            else
             some 0
          else
           bif (v.Kind != 4) then
            bif (!(v.Text == [])) then
             some 2
            else
             some 0
           else
            some 0
      else
       bif (v.Kind == 4) then
        bif (ltB 24 (List.length v.Text : Int)) then
         some 5
        else
         bif (ltB 2 v.Kind) then
          bif (v.N != 0) then
           some 2
          else
           bif (v.Kind != 3) then
            bif (v.Bits != 0) then
             some 2
            else
             bif (v.Kind != 4) then
              bif (!(v.Text == [])) then
               some 2
              else
               some 0
             else
              some 0
           else
            bif (v.Kind != 4) then
             bif (!(v.Text == [])) then
              some 2
             else
              some 0
            else
             some 0
         else
          bif (v.Kind != 3) then
           bif (v.Bits != 0) then
            some 2
           else
            bif (v.Kind != 4) then
             bif (!(v.Text == [])) then
              some 2
             else
              some 0
            else
             some 0
          else
           bif (v.Kind != 4) then
            bif (!(v.Text == [])) then
             some 2
            else
             some 0
           else
            some 0
       else
        bif (ltB 2 v.Kind) then
         bif (v.N != 0) then
          some 2
         else
          bif (v.Kind != 3) then
           bif (v.Bits != 0) then
            some 2
           else
            bif (v.Kind != 4) then
             bif (!(v.Text == [])) then
              some 2
             else
              some 0
            else
             some 0
          else
           bif (v.Kind != 4) then
            bif (!(v.Text == [])) then
             some 2
            else
             some 0
           else
            some 0
        else
         bif (v.Kind != 3) then
          bif (v.Bits != 0) then
           some 2
          else
           bif (v.Kind != 4) then
            bif (!(v.Text == [])) then
             some 2
            else
             some 0
           else
            some 0
         else
          bif (v.Kind != 4) then
           bif (!(v.Text == [])) then
            some 2
           else
            some 0
          else
           some 0
def s_ref10_decimal_1 (N : Nat) (next0 : Int → (List UInt8) → Option (List UInt8)) (n2 : Int) (s : List UInt8) : Option (List UInt8) :=
  bif (ltB 0 n2) then
   gd (i64b ((Int.tmod n2 10) + 1)) (
   gd (leB 0 (Int.tmod n2 10)) (
   gd (leB (Int.tmod n2 10) ((Int.tmod n2 10) + 1)) (
   gd (leB ((Int.tmod n2 10) + 1) 10) (
   gd (Nat.ble ((List.length (List.drop (Int.toNat (Int.tmod n2 10)) (List.take (Int.toNat ((Int.tmod n2 10) + 1)) ([48, 49, 50, 51, 52, 53, 54, 55, 56, 57] : List UInt8)))) + (List.length s)) 9223372036854775807) (
   next0 (IntKind.i64.wrap (Int.tdiv n2 10)) ((List.drop (Int.toNat (Int.tmod n2 10)) (List.take (Int.toNat ((Int.tmod n2 10) + 1)) ([48, 49, 50, 51, 52, 53, 54, 55, 56, 57] : List UInt8))) ++ s))))))
  else
   some s
def s_ref10_decimal (N : Nat) (n : Int) : Option (List UInt8) :=
  gd (i64b ((Int.tmod n 10) + 1)) (
  gd (leB 0 (Int.tmod n 10)) (
  gd (leB (Int.tmod n 10) ((Int.tmod n 10) + 1)) (
  gd (leB ((Int.tmod n 10) + 1) 10) (
  lp2 (s_ref10_decimal_1 N) N (IntKind.i64.wrap (Int.tdiv n 10)) (List.drop (Int.toNat (Int.tmod n 10)) (List.take (Int.toNat ((Int.tmod n 10) + 1)) ([48, 49, 50, 51, 52, 53, 54, 55, 56, 57] : List UInt8)))))))
def s_ref10_Literal_1 (N : Nat) (next0 : (List UInt8) → Int → Int → Option (List UInt8)) (s : List UInt8) (u : Int) (i : Int) : Option (List UInt8) :=
  bif (ltB i 16) then
   gd (leB 0 (Int.tmod u 16)) (
   gd (leB (Int.tmod u 16) (IntKind.u64.wrap ((Int.tmod u 16) + 1))) (
   gd (leB (IntKind.u64.wrap ((Int.tmod u 16) + 1)) 16) (
   gd (Nat.ble ((List.length (List.drop (Int.toNat (Int.tmod u 16)) (List.take (Int.toNat (IntKind.u64.wrap ((Int.tmod u 16) + 1))) ([48, 49, 50, 51, 52, 53, 54, 55, 56, 57, 97, 98, 99, 100, 101, 102] : List UInt8)))) + (List.length s)) 9223372036854775807) (
   gd (i64b (i + 1)) (
   next0 ((List.drop (Int.toNat (Int.tmod u 16)) (List.take (Int.toNat (IntKind.u64.wrap ((Int.tmod u 16) + 1))) ([48, 49, 50, 51, 52, 53, 54, 55, 56, 57, 97, 98, 99, 100, 101, 102] : List UInt8))) ++ s) (IntKind.u64.wrap (Int.tdiv u 16)) (i + 1))))))
  else
   gd (Nat.ble (1 + (List.length s)) 9223372036854775807) (
   some (35 :: s))
def s_ref10_Literal_2 (N : Nat) (y4 : List UInt8) (next2 : (List UInt8) → Int → Option (List UInt8)) (s2 : List UInt8) (i2 : Int) : Option (List UInt8) :=
  bif (ltB i2 (List.length y4 : Int)) then
   (ix y4 i2).bind fun c =>
   bif ((UInt8.toNat c : Int) == 39) then
    gd (Nat.ble ((List.length s2) + 2) 9223372036854775807) (
    gd (i64b (i2 + 1)) (
    next2 (s2 ++ [39, 39]) (i2 + 1)))
   else
    bif (leB 32 (UInt8.toNat c : Int)) then
     bif (leB (UInt8.toNat c : Int) 126) then
      bif ((UInt8.toNat c : Int) != 92) then
       gd (i64b (i2 + 1)) (
       gd (leB 0 i2) (
       gd (leB i2 (i2 + 1)) (
       gd (leB (i2 + 1) (List.length y4 : Int)) (
       gd (Nat.ble ((List.length s2) + (List.length (List.drop (Int.toNat i2) (List.take (Int.toNat (i2 + 1)) y4)))) 9223372036854775807) (
       gd (i64b (i2 + 1)) (
       next2 (s2 ++ (List.drop (Int.toNat i2) (List.take (Int.toNat (i2 + 1)) y4))) (i2 + 1)))))))
      else
       gd (Nat.ble ((List.length s2) + 1) 9223372036854775807) (
       gd (leB 0 (IntKind.u8.wrap (Int.tdiv (UInt8.toNat c : Int) 16))) (
       gd (leB (IntKind.u8.wrap (Int.tdiv (UInt8.toNat c : Int) 16)) (IntKind.u8.wrap ((IntKind.u8.wrap (Int.tdiv (UInt8.toNat c : Int) 16)) + 1))) (
       gd (leB (IntKind.u8.wrap ((IntKind.u8.wrap (Int.tdiv (UInt8.toNat c : Int) 16)) + 1)) 16) (
       gd (Nat.ble ((List.length (s2 ++ [92])) + (List.length (List.drop (Int.toNat (IntKind.u8.wrap (Int.tdiv (UInt8.toNat c : Int) 16))) (List.take (Int.toNat (IntKind.u8.wrap ((IntKind.u8.wrap (Int.tdiv (UInt8.toNat c : Int) 16)) + 1))) ([48, 49, 50, 51, 52, 53, 54, 55, 56, 57, 97, 98, 99, 100, 101, 102] : List UInt8))))) 9223372036854775807) (
       gd (leB 0 (Int.tmod (UInt8.toNat c : Int) 16)) (
       gd (leB (Int.tmod (UInt8.toNat c : Int) 16) (IntKind.u8.wrap ((Int.tmod (UInt8.toNat c : Int) 16) + 1))) (
       gd (leB (IntKind.u8.wrap ((Int.tmod (UInt8.toNat c : Int) 16) + 1)) 16) (
       gd (Nat.ble ((List.length ((s2 ++ [92]) ++ (List.drop (Int.toNat (IntKind.u8.wrap (Int.tdiv (UInt8.toNat c : Int) 16))) (List.take (Int.toNat (IntKind.u8.wrap ((IntKind.u8.wrap (Int.tdiv (UInt8.toNat c : Int) 16)) + 1))) ([48, 49, 50, 51, 52, 53, 54, 55, 56, 57, 97, 98, 99, 100, 101, 102] : List UInt8))))) + (List.length (List.drop (Int.toNat (Int.tmod (UInt8.toNat c : Int) 16)) (List.take (Int.toNat (IntKind.u8.wrap ((Int.tmod (UInt8.toNat c : Int) 16) + 1))) ([48, 49, 50, 51, 52, 53, 54, 55, 56, 57, 97, 98, 99, 100, 101, 102] : List UInt8))))) 9223372036854775807) (
       gd (i64b (i2 + 1)) (
       next2 (((s2 ++ [92]) ++ (List.drop (Int.toNat (IntKind.u8.wrap (Int.tdiv (UInt8.toNat c : Int) 16))) (List.take (Int.toNat (IntKind.u8.wrap ((IntKind.u8.wrap (Int.tdiv (UInt8.toNat c : Int) 16)) + 1))) ([48, 49, 50, 51, 52, 53, 54, 55, 56, 57, 97, 98, 99, 100, 101, 102] : List UInt8)))) ++ (List.drop (Int.toNat (Int.tmod (UInt8.toNat c : Int) 16)) (List.take (Int.toNat (IntKind.u8.wrap ((Int.tmod (UInt8.toNat c : Int) 16) + 1))) ([48, 49, 50, 51, 52, 53, 54, 55, 56, 57, 97, 98, 99, 100, 101, 102] : List UInt8)))) (i2 + 1)))))))))))
     else
      gd (Nat.ble ((List.length s2) + 1) 9223372036854775807) (
      gd (leB 0 (IntKind.u8.wrap (Int.tdiv (UInt8.toNat c : Int) 16))) (
      gd (leB (IntKind.u8.wrap (Int.tdiv (UInt8.toNat c : Int) 16)) (IntKind.u8.wrap ((IntKind.u8.wrap (Int.tdiv (UInt8.toNat c : Int) 16)) + 1))) (
      gd (leB (IntKind.u8.wrap ((IntKind.u8.wrap (Int.tdiv (UInt8.toNat c : Int) 16)) + 1)) 16) (
      gd (Nat.ble ((List.length (s2 ++ [92])) + (List.length (List.drop (Int.toNat (IntKind.u8.wrap (Int.tdiv (UInt8.toNat c : Int) 16))) (List.take (Int.toNat (IntKind.u8.wrap ((IntKind.u8.wrap (Int.tdiv (UInt8.toNat c : Int) 16)) + 1))) ([48, 49, 50, 51, 52, 53, 54, 55, 56, 57, 97, 98, 99, 100, 101, 102] : List UInt8))))) 9223372036854775807) (
      gd (leB 0 (Int.tmod (UInt8.toNat c : Int) 16)) (
      gd (leB (Int.tmod (UInt8.toNat c : Int) 16) (IntKind.u8.wrap ((Int.tmod (UInt8.toNat c : Int) 16) + 1))) (
      gd (leB (IntKind.u8.wrap ((Int.tmod (UInt8.toNat c : Int) 16) + 1)) 16) (
      gd (Nat.ble ((List.length ((s2 ++ [92]) ++ (List.drop (Int.toNat (IntKind.u8.wrap (Int.tdiv (UInt8.toNat c : Int) 16))) (List.take (Int.toNat (IntKind.u8.wrap ((IntKind.u8.wrap (Int.tdiv (UInt8.toNat c : Int) 16)) + 1))) ([48, 49, 50, 51, 52, 53, 54, 55, 56, 57, 97, 98, 99, 100, 101, 102] : List UInt8))))) + (List.length (List.drop (Int.toNat (Int.tmod (UInt8.toNat c : Int) 16)) (List.take (Int.toNat (IntKind.u8.wrap ((Int.tmod (UInt8.toNat c : Int) 16) + 1))) ([48, 49, 50, 51, 52, 53, 54, 55, 56, 57, 97, 98, 99, 100, 101, 102] : List UInt8))))) 9223372036854775807) (
      gd (i64b (i2 + 1)) (
      next2 (((s2 ++ [92]) ++ (List.drop (Int.toNat (IntKind.u8.wrap (Int.tdiv (UInt8.toNat c : Int) 16))) (List.take (Int.toNat (IntKind.u8.wrap ((IntKind.u8.wrap (Int.tdiv (UInt8.toNat c : Int) 16)) + 1))) ([48, 49, 50, 51, 52, 53, 54, 55, 56, 57, 97, 98, 99, 100, 101, 102] : List UInt8)))) ++ (List.drop (Int.toNat (Int.tmod (UInt8.toNat c : Int) 16)) (List.take (Int.toNat (IntKind.u8.wrap ((Int.tmod (UInt8.toNat c : Int) 16) + 1))) ([48, 49, 50, 51, 52, 53, 54, 55, 56, 57, 97, 98, 99, 100, 101, 102] : List UInt8)))) (i2 + 1)))))))))))
    else
     gd (Nat.ble ((List.length s2) + 1) 9223372036854775807) (
     gd (leB 0 (IntKind.u8.wrap (Int.tdiv (UInt8.toNat c : Int) 16))) (
     gd (leB (IntKind.u8.wrap (Int.tdiv (UInt8.toNat c : Int) 16)) (IntKind.u8.wrap ((IntKind.u8.wrap (Int.tdiv (UInt8.toNat c : Int) 16)) + 1))) (
     gd (leB (IntKind.u8.wrap ((IntKind.u8.wrap (Int.tdiv (UInt8.toNat c : Int) 16)) + 1)) 16) (
     gd (Nat.ble ((List.length (s2 ++ [92])) + (List.length (List.drop (Int.toNat (IntKind.u8.wrap (Int.tdiv (UInt8.toNat c : Int) 16))) (List.take (Int.toNat (IntKind.u8.wrap ((IntKind.u8.wrap (Int.tdiv (UInt8.toNat c : Int) 16)) + 1))) ([48, 49, 50, 51, 52, 53, 54, 55, 56, 57, 97, 98, 99, 100, 101, 102] : List UInt8))))) 9223372036854775807) (
     gd (leB 0 (Int.tmod (UInt8.toNat c : Int) 16)) (
     gd (leB (Int.tmod (UInt8.toNat c : Int) 16) (IntKind.u8.wrap ((Int.tmod (UInt8.toNat c : Int) 16) + 1))) (
     gd (leB (IntKind.u8.wrap ((Int.tmod (UInt8.toNat c : Int) 16) + 1)) 16) (
     gd (Nat.ble ((List.length ((s2 ++ [92]) ++ (List.drop (Int.toNat (IntKind.u8.wrap (Int.tdiv (UInt8.toNat c : Int) 16))) (List.take (Int.toNat (IntKind.u8.wrap ((IntKind.u8.wrap (Int.tdiv (UInt8.toNat c : Int) 16)) + 1))) ([48, 49, 50, 51, 52, 53, 54, 55, 56, 57, 97, 98, 99, 100, 101, 102] : List UInt8))))) + (List.length (List.drop (Int.toNat (Int.tmod (UInt8.toNat c : Int) 16)) (List.take (Int.toNat (IntKind.u8.wrap ((Int.tmod (UInt8.toNat c : Int) 16) + 1))) ([48, 49, 50, 51, 52, 53, 54, 55, 56, 57, 97, 98, 99, 100, 101, 102] : List UInt8))))) 9223372036854775807) (
     gd (i64b (i2 + 1)) (
     next2 (((s2 ++ [92]) ++ (List.drop (Int.toNat (IntKind.u8.wrap (Int.tdiv (UInt8.toNat c : Int) 16))) (List.take (Int.toNat (IntKind.u8.wrap ((IntKind.u8.wrap (Int.tdiv (UInt8.toNat c : Int) 16)) + 1))) ([48, 49, 50, 51, 52, 53, 54, 55, 56, 57, 97, 98, 99, 100, 101, 102] : List UInt8)))) ++ (List.drop (Int.toNat (Int.tmod (UInt8.toNat c : Int) 16)) (List.take (Int.toNat (IntKind.u8.wrap ((Int.tmod (UInt8.toNat c : Int) 16) + 1))) ([48, 49, 50, 51, 52, 53, 54, 55, 56, 57, 97, 98, 99, 100, 101, 102] : List UInt8)))) (i2 + 1)))))))))))
  else
   gd (Nat.ble ((List.length s2) + 1) 9223372036854775807) (
   some (s2 ++ [39]))
def s_ref10_Literal (N : Nat) (v : value_Value) : Option (List UInt8) :=
  (s_ref04_Check N v).bind fun chec =>
  bif (chec != 0) then
   some []
  else
   bif (v.Kind == 1) then
    bif (ltB v.N 0) then
     gd (i64b (0 - v.N)) (
     (s_ref10_decimal N (0 - v.N)).bind fun deci =>
     gd (Nat.ble (1 + (List.length deci)) 9223372036854775807) (
     some (45 :: deci)))
    else
     (s_ref10_decimal N v.N).bind fun deci2 =>
     some deci2
   else
    bif (v.Kind == 2) then
     bif (v.N == 1) then
      some [116, 114, 117, 101]
     else
      some [102, 97, 108, 115, 101]
    else
     bif (v.Kind == 3) then
      lp3 (s_ref10_Literal_1 N) N [] v.Bits 0
     else
      lp2 (s_ref10_Literal_2 N v.Text) N [39] 0
def s_ref10_Word (N : Nat) (t : lex_Token) : Option (List UInt8) :=
  bif (t.Kind == 3) then
   (s_ref10_Literal N t.Val).bind fun lite =>
   some lite
  else
   bif (t.Kind == 1) then
    some t.Text
   else
    bif (t.Kind == 2) then
     some t.Text
    else
     bif (t.Kind == 4) then
      some t.Text
     else
      some []
def s_ref10_Print_1 (N : Nat) (l : List lex_Token) (next0 : (List UInt8) → Int → Option (List UInt8)) (s : List UInt8) (i : Int) : Option (List UInt8) :=
  bif (ltB i (List.length l : Int)) then
   bif (ltB 0 i) then
    gd (Nat.ble ((List.length s) + 1) 9223372036854775807) (
    (ix l i).bind fun e =>
    (s_ref10_Word N e).bind fun word =>
    gd (Nat.ble ((List.length (s ++ [32])) + (List.length word)) 9223372036854775807) (
    gd (i64b (i + 1)) (
    next0 ((s ++ [32]) ++ word) (i + 1))))
   else
    (ix l i).bind fun e2 =>
    (s_ref10_Word N e2).bind fun word2 =>
    gd (Nat.ble ((List.length s) + (List.length word2)) 9223372036854775807) (
    gd (i64b (i + 1)) (
    next0 (s ++ word2) (i + 1)))
  else
   some s
def s_ref10_Print (N : Nat) (l : List lex_Token) : Option (List UInt8) :=
  lp2 (s_ref10_Print_1 N l) N [] 0
def s_lex_Same_L1 (N : Nat) (x : lex_Token) (y : lex_Token) : Option Bool :=
  some ((x.Kind == y.Kind) && ((y.At == y.At) && ((x.Text == y.Text) && ((x.Val.Kind == y.Val.Kind) && ((x.Val.N == y.Val.N) && ((x.Val.Bits == y.Val.Bits) && (x.Val.Text == y.Val.Text)))))))
def s_slices_EqualFunc_lex_Token_v798_1 (N : Nat) (s2 : List lex_Token) (s1 : List lex_Token) (x : Int) (next0 : Int → Option Bool) (x2 : Int) : Option Bool :=
  bif (ltB x2 x) then
   (ix s1 x2).bind fun e =>
   (ix s2 x2).bind fun e2 =>
   (s_lex_Same_L1 N e e2).bind fun l =>
   bif (!l) then
    some false
   else
    gd (i64b (x2 + 1)) (
    next0 (x2 + 1))
  else
   some true
def s_slices_EqualFunc_lex_Token_v798 (N : Nat) (s1 : List lex_Token) (s2 : List lex_Token) : Option Bool :=
  bif ((List.length s1 : Int) != (List.length s2 : Int)) then
   some false
  else
   lp1 (s_slices_EqualFunc_lex_Token_v798_1 N s2 s1 (List.length s1 : Int)) N 0
def s_lex_Same (N : Nat) (va : List lex_Token) (b : List lex_Token) : Option Bool :=
  (s_slices_EqualFunc_lex_Token_v798 N va b).bind fun toke =>
  some toke
def s_ref10_Same_1 (N : Nat) (va : List lex_Token) (b : List lex_Token) (next0 : Int → Option Bool) (i : Int) : Option Bool :=
  bif (ltB i (List.length va : Int)) then
   (ix va i).bind fun e =>
   (ix b i).bind fun e2 =>
   bif (e.Kind != e2.Kind) then
    some false
   else
    (ix va i).bind fun e3 =>
    (ix b i).bind fun e4 =>
    bif (!(e3.Text == e4.Text)) then
     some false
    else
     (ix va i).bind fun e5 =>
     (ix b i).bind fun e6 =>
     bif (!((e5.Val.Kind == e6.Val.Kind) && ((e5.Val.N == e6.Val.N) && ((e5.Val.Bits == e6.Val.Bits) && (e5.Val.Text == e6.Val.Text))))) then
      some false
     else
      gd (i64b (i + 1)) (
      next0 (i + 1))
  else
   some true
def s_ref10_Same (N : Nat) (va : List lex_Token) (b : List lex_Token) : Option Bool :=
  bif ((List.length va : Int) != (List.length b : Int)) then
   some false
  else
   lp1 (s_ref10_Same_1 N va b) N 0
def s_law10_LexPrints_1 (N : Nat) (own : List lex_Token) (own2 : List lex_Token) (y : List lex_Token) (y2 : List lex_Token) (y3 : Int) (y4 : Int) (y5 : Int) (y6 : List UInt8) (next0 : Int → Option Bool) (i : Int) : Option Bool :=
  bif (ltB i (List.length own : Int)) then
   (ix own i).bind fun e =>
   (s_lex_Word N e).bind fun word =>
   (ix y i).bind fun e2 =>
   (s_ref10_Word N e2).bind fun word2 =>
   bif (!(word == word2)) then
    some false
   else
    gd (i64b (i + 1)) (
    next0 (i + 1))
  else
   (s_lex_Print N own).bind fun prin =>
   (s_ref10_Print N y).bind fun prin2 =>
   bif (prin == prin2) then
    (s_lex_Literal N (value_Value.mk y3 y4 y5 y6)).bind fun lite =>
    (s_ref10_Literal N (value_Value.mk y3 y4 y5 y6)).bind fun lite2 =>
    bif (lite == lite2) then
     (s_lex_Same N own own2).bind fun same =>
     (s_ref10_Same N y y2).bind fun same2 =>
     bif (same == same2) then
      (s_law10_awake N).bind fun awak4 =>
      some awak4
     else
      some false
    else
     some false
   else
    some false
def s_law10_LexPrints (N : Nat) (l : anon_42) (v : value_Value) : Option Bool :=
  (s_law10_Over N l.i0 40).bind fun over =>
  bif (ltB 0 over) then
   (s_law10_awake N).bind fun awak =>
   some awak
  else
   (s_law10_Over N l.i1 40).bind fun over2 =>
   bif (ltB 0 over2) then
    (s_law10_awake N).bind fun awak2 =>
    some awak2
   else
    (s_law04_Small N v).bind fun smal =>
    bif (ltB 0 smal) then
     (s_law10_awake N).bind fun awak3 =>
     some awak3
    else
     (s_law10_Own N l.i0).bind fun own =>
     (s_law10_Own N l.i1).bind fun own2 =>
     lp1 (s_law10_LexPrints_1 N own own2 l.i0 l.i1 v.Kind v.N v.Bits v.Text) N 0
end
end Go.Proofs.YtmjmbhkohcdlpaaDoor.W
namespace Go.Proofs.YtmjmbhkohcdlpaaDoor.W
open Go
open Go.Proofs.Tryd
set_option maxRecDepth 1000000
set_option linter.unusedSimpArgs false
set_option linter.unusedVariables false
noncomputable section
theorem hm : prog.follows .mixedOrders = true := by kernel_rfl
def eA0 (x : value_Value) : AV := .agg [.v (.int .u8 x.Kind), .v (.int .i64 x.N), .v (.int .u64 x.Bits), .v (.string (bs x.Text))]
def eA1 (x : lex_Token) : AV := .agg [.v (.int .u8 x.Kind), .v (.int .i64 x.At), .v (.string (bs x.Text)), .v (.int .u8 x.Val.Kind), .v (.int .i64 x.Val.N), .v (.int .u64 x.Val.Bits), .v (.string (bs x.Val.Text))]
def eA2 (x : Int) : AV := .v (.int .u8 x)
def eA3 (x : List UInt8) : AV := .v (.string (bs x))
def eA4 (x : anon_42) : AV := .agg [.sl 7 (List.map eA1 x.i0), .sl 7 (List.map eA1 x.i1)]
abbrev T : Nat → Type
  | 0 => value_Value
  | 1 => lex_Token
  | 2 => Int
  | 3 => List UInt8
  | 4 => anon_42
  | _ => Unit
def enc : (i : Nat) → T i → List (BV T)
  | 0 => fun (x : value_Value) => [.int .u8 x.Kind, .int .i64 x.N, .int .u64 x.Bits, .str x.Text]
  | 1 => fun (x : lex_Token) => [.int .u8 x.Kind, .int .i64 x.At, .str x.Text, .int .u8 x.Val.Kind, .int .i64 x.Val.N, .int .u64 x.Val.Bits, .str x.Val.Text]
  | 2 => fun (x : Int) => [.int .u8 x]
  | 3 => fun (x : List UInt8) => [.str x]
  | 4 => fun (x : anon_42) => [.sl 1 x.i0, .sl 1 x.i1]
  | _ => fun _ => []
def dec0 : List (BV T) → Option value_Value := P1 (asInt .u8) fun a0 => P1 (asInt .i64) fun a1 => P1 (asInt .u64) fun a2 => P1 asStr fun a3 => P0 (⟨a0, a1, a2, a3⟩ : value_Value)
def dec1 : List (BV T) → Option lex_Token := P1 (asInt .u8) fun a0 => P1 (asInt .i64) fun a1 => P1 asStr fun a2 => P1 (asInt .u8) fun a3 => P1 (asInt .i64) fun a4 => P1 (asInt .u64) fun a5 => P1 asStr fun a6 => P0 (⟨a0, a1, a2, ⟨a3, a4, a5, a6⟩⟩ : lex_Token)
def dec2 : List (BV T) → Option Int := P1 (asInt .u8) fun a0 => P0 (a0 : Int)
def dec3 : List (BV T) → Option (List UInt8) := P1 asStr fun a0 => P0 (a0 : List UInt8)
def dec4 : List (BV T) → Option anon_42 := P1 (asRow 1) fun a0 => P1 (asRow 1) fun a1 => P0 (⟨a0, a1⟩ : anon_42)
def dec : (i : Nat) → List (BV T) → Option (T i)
  | 0 => dec0
  | 1 => dec1
  | 2 => dec2
  | 3 => dec3
  | 4 => dec4
  | _ => fun _ => none
def eA : (i : Nat) → T i → AV
  | 0 => eA0
  | 1 => eA1
  | 2 => eA2
  | 3 => eA3
  | 4 => eA4
  | _ => fun _ => .agg []
def tb : Tb T := ⟨fun i => [4, 7, 1, 1, 2].getD i 0, fun i => [true, true, false, false, true].getD i true, eA, enc, dec⟩
def sbf (k : Nat) : Option (List UInt8 → (i : Nat) × List (T i)) := match Nat.beq k 1 with
  | true => some fun s => ⟨2, bints s⟩
  | false => none
theorem sb_ok (k : Nat) (f : List UInt8 → (i : Nat) × List (T i)) (s : List UInt8) (h : sbf k = some f) : k = 1 ∧ tb.k (f s).1 = 1 ∧ (f s).2.map (tb.eA (f s).1) = s.map byteV := by
  unfold sbf at h
  split at h
  · rename_i hk; cases h; exact ⟨Nat.eq_of_beq_eq_true hk, rfl, (byteV_map s).symm⟩
  · cases h
def bof : (i : Nat) → List (T i) → Option (List UInt8)
  | 2 => fun (l : List Int) => some (byS l)
  | _ => fun _ => none
theorem bo_ok (i : Nat) (l : List (T i)) (s : List UInt8) (h : bof i l = some s) : tb.k i = 1 ∧ ∃ m : List Int, l.map (tb.eA i) = m.map u8V ∧ s = byS m := by
  unfold bof at h
  split at h
  · cases h; exact ⟨rfl, _, rfl, rfl⟩
  · cases h
theorem dec0_ok (cs : List (BV T)) (x : value_Value) (h : dec0 cs = some x) : LWs (BV.avs tb cs) (eA0 x).cells := by
  obtain ⟨c0, r0, a0, rfl, h0, h⟩ := P1_some h
  obtain ⟨c1, r1, a1, rfl, h1, h⟩ := P1_some h
  obtain ⟨c2, r2, a2, rfl, h2, h⟩ := P1_some h
  obtain ⟨c3, r3, a3, rfl, h3, h⟩ := P1_some h
  obtain ⟨rfl, rfl⟩ := P0_some h
  exact .cons (asInt_lw h0) (.cons (asInt_lw h1) (.cons (asInt_lw h2) (.cons (asStr_lw h3) (.nil))))
theorem dec1_ok (cs : List (BV T)) (x : lex_Token) (h : dec1 cs = some x) : LWs (BV.avs tb cs) (eA1 x).cells := by
  obtain ⟨c0, r0, a0, rfl, h0, h⟩ := P1_some h
  obtain ⟨c1, r1, a1, rfl, h1, h⟩ := P1_some h
  obtain ⟨c2, r2, a2, rfl, h2, h⟩ := P1_some h
  obtain ⟨c3, r3, a3, rfl, h3, h⟩ := P1_some h
  obtain ⟨c4, r4, a4, rfl, h4, h⟩ := P1_some h
  obtain ⟨c5, r5, a5, rfl, h5, h⟩ := P1_some h
  obtain ⟨c6, r6, a6, rfl, h6, h⟩ := P1_some h
  obtain ⟨rfl, rfl⟩ := P0_some h
  exact .cons (asInt_lw h0) (.cons (asInt_lw h1) (.cons (asStr_lw h2) (.cons (asInt_lw h3) (.cons (asInt_lw h4) (.cons (asInt_lw h5) (.cons (asStr_lw h6) (.nil)))))))
theorem dec2_ok (cs : List (BV T)) (x : Int) (h : dec2 cs = some x) : LWs (BV.avs tb cs) (eA2 x).cells := by
  obtain ⟨c0, r0, a0, rfl, h0, h⟩ := P1_some h
  obtain ⟨rfl, rfl⟩ := P0_some h
  exact .cons (asInt_lw h0) (.nil)
theorem dec3_ok (cs : List (BV T)) (x : List UInt8) (h : dec3 cs = some x) : LWs (BV.avs tb cs) (eA3 x).cells := by
  obtain ⟨c0, r0, a0, rfl, h0, h⟩ := P1_some h
  obtain ⟨rfl, rfl⟩ := P0_some h
  exact .cons (asStr_lw h0) (.nil)
theorem dec4_ok (cs : List (BV T)) (x : anon_42) (h : dec4 cs = some x) : LWs (BV.avs tb cs) (eA4 x).cells := by
  obtain ⟨c0, r0, a0, rfl, h0, h⟩ := P1_some h
  obtain ⟨c1, r1, a1, rfl, h1, h⟩ := P1_some h
  obtain ⟨rfl, rfl⟩ := P0_some h
  exact .cons (asRow_ok h0) (.cons (asRow_ok h1) (.nil))
theorem tb_ok : tb.Ok where
  enc := fun i x => match i with | 0 => (by kernel_rfl) | 1 => (by kernel_rfl) | 2 => (by kernel_rfl) | 3 => (by kernel_rfl) | 4 => (by kernel_rfl) | n + 5 => (by kernel_rfl)
  len := fun i x => match i with | 0 => (by kernel_rfl) | 1 => (by kernel_rfl) | 2 => (by kernel_rfl) | 3 => (by kernel_rfl) | 4 => (by kernel_rfl) | n + 5 => (by kernel_rfl)
  one := fun i x => match i with | 0 => (by kernel_rfl) | 1 => (by kernel_rfl) | 2 => (by kernel_rfl) | 3 => (by kernel_rfl) | 4 => (by kernel_rfl) | n + 5 => (by kernel_rfl)
  dat := fun i x => match i with | 0 => (by kernel_rfl) | 1 => (by kernel_rfl) | 2 => (by kernel_rfl) | 3 => (by kernel_rfl) | 4 => (by kernel_rfl) | n + 5 => (by kernel_rfl)
  sg := fun i x h => match i with | 0 => (by cases h) | 1 => (by cases h) | 2 => (by kernel_rfl) | 3 => (by kernel_rfl) | 4 => (by cases h) | n + 5 => (by cases h)
  ag := fun i x h => match i with | 0 => (by kernel_rfl) | 1 => (by kernel_rfl) | 2 => (by cases h) | 3 => (by cases h) | 4 => (by kernel_rfl) | n + 5 => (by kernel_rfl)
  dec := fun i => match i with | 0 => dec0_ok | 1 => dec1_ok | 2 => dec2_ok | 3 => dec3_ok | 4 => dec4_ok | n + 5 => fun cs x h => (by cases h)
theorem is_law04_Small : Is prog 7 f7.ntmps (resOf prog f7) (bd prog f7) := Is.of (by kernel_rfl) (by kernel_rfl)
theorem is_law10_Over : Is prog 14 f14.ntmps (resOf prog f14) (bd prog f14) := Is.of (by kernel_rfl) (by kernel_rfl)
theorem is_lex_small : Is prog 45 f45.ntmps (resOf prog f45) (bd prog f45) := Is.of (by kernel_rfl) (by kernel_rfl)
theorem is_lex_scanner_fail : Is prog 48 f48.ntmps (resOf prog f48) (bd prog f48) := Is.of (by kernel_rfl) (by kernel_rfl)
theorem is_lex_digit : Is prog 46 f46.ntmps (resOf prog f46) (bd prog f46) := Is.of (by kernel_rfl) (by kernel_rfl)
theorem is_lex_tail : Is prog 66 f66.ntmps (resOf prog f66) (bd prog f66) := Is.of (by kernel_rfl) (by kernel_rfl)
theorem is_lex_scanner_length : Is prog 65 f65.ntmps (resOf prog f65) (bd prog f65) := Is.of (by kernel_rfl) (by kernel_rfl)
theorem is_value_OfFlag : Is prog 68 f68.ntmps (resOf prog f68) (bd prog f68) := Is.of (by kernel_rfl) (by kernel_rfl)
theorem is_lex_scanner_put : Is prog 67 f67.ntmps (resOf prog f67) (bd prog f67) := Is.of (by kernel_rfl) (by kernel_rfl)
theorem is_schema_Reserved : Is prog 69 f69.ntmps (resOf prog f69) (bd prog f69) := Is.of (by kernel_rfl) (by kernel_rfl)
theorem is_lex_scanner_word : Is prog 49 f49.ntmps (resOf prog f49) (bd prog f49) := Is.of (by kernel_rfl) (by kernel_rfl)
theorem is_value_OfInt : Is prog 12 f12.ntmps (resOf prog f12) (bd prog f12) := Is.of (by kernel_rfl) (by kernel_rfl)
theorem is_lex_scanner_number : Is prog 50 f50.ntmps (resOf prog f50) (bd prog f50) := Is.of (by kernel_rfl) (by kernel_rfl)
theorem is_stringslite_IndexByte : Is prog 64 f64.ntmps (resOf prog f64) (bd prog f64) := Is.of (by kernel_rfl) (by kernel_rfl)
theorem is_strings_IndexByte : Is prog 47 f47.ntmps (resOf prog f47) (bd prog f47) := Is.of (by kernel_rfl) (by kernel_rfl)
theorem is_lex_base16 : Is prog 70 f70.ntmps (resOf prog f70) (bd prog f70) := Is.of (by kernel_rfl) (by kernel_rfl)
theorem is_real_of : Is prog 44 f44.ntmps (resOf prog f44) (bd prog f44) := Is.of (by kernel_rfl) (by kernel_rfl)
theorem is_real_Clean : Is prog 30 f30.ntmps (resOf prog f30) (bd prog f30) := Is.of (by kernel_rfl) (by kernel_rfl)
theorem is_value_OfReal : Is prog 25 f25.ntmps (resOf prog f25) (bd prog f25) := Is.of (by kernel_rfl) (by kernel_rfl)
theorem is_lex_scanner_double : Is prog 51 f51.ntmps (resOf prog f51) (bd prog f51) := Is.of (by kernel_rfl) (by kernel_rfl)
theorem is_lex_scanner_escaped : Is prog 71 f71.ntmps (resOf prog f71) (bd prog f71) := Is.of (by kernel_rfl) (by kernel_rfl)
theorem is_value_OfText : Is prog 24 f24.ntmps (resOf prog f24) (bd prog f24) := Is.of (by kernel_rfl) (by kernel_rfl)
theorem is_lex_scanner_quoted : Is prog 52 f52.ntmps (resOf prog f52) (bd prog f52) := Is.of (by kernel_rfl) (by kernel_rfl)
theorem is_lex_scanner_sign : Is prog 53 f53.ntmps (resOf prog f53) (bd prog f53) := Is.of (by kernel_rfl) (by kernel_rfl)
theorem is_lex_scanner_token : Is prog 32 f32.ntmps (resOf prog f32) (bd prog f32) := Is.of (by kernel_rfl) (by kernel_rfl)
theorem is_lex_Scan : Is prog 11 f11.ntmps (resOf prog f11) (bd prog f11) := Is.of (by kernel_rfl) (by kernel_rfl)
theorem is_fault_Code : Is prog 22 f22.ntmps (resOf prog f22) (bd prog f22) := Is.of (by kernel_rfl) (by kernel_rfl)
theorem is_fault_At : Is prog 23 f23.ntmps (resOf prog f23) (bd prog f23) := Is.of (by kernel_rfl) (by kernel_rfl)
theorem is_value_core : Is prog 29 f29.ntmps (resOf prog f29) (bd prog f29) := Is.of (by kernel_rfl) (by kernel_rfl)
theorem is_value_number_whole : Is prog 99 f99.ntmps (resOf prog f99) (bd prog f99) := Is.of (by kernel_rfl) (by kernel_rfl)
theorem is_value_flag_whole : Is prog 100 f100.ntmps (resOf prog f100) (bd prog f100) := Is.of (by kernel_rfl) (by kernel_rfl)
theorem is_value_double_whole : Is prog 101 f101.ntmps (resOf prog f101) (bd prog f101) := Is.of (by kernel_rfl) (by kernel_rfl)
theorem is_value_words_whole : Is prog 102 f102.ntmps (resOf prog f102) (bd prog f102) := Is.of (by kernel_rfl) (by kernel_rfl)
theorem is_value_Check : Is prog 10 f10.ntmps (resOf prog f10) (bd prog f10) := Is.of (by kernel_rfl) (by kernel_rfl)
theorem is_lex_Literal : Is prog 9 f9.ntmps (resOf prog f9) (bd prog f9) := Is.of (by kernel_rfl) (by kernel_rfl)
theorem is_lex_Word : Is prog 13 f13.ntmps (resOf prog f13) (bd prog f13) := Is.of (by kernel_rfl) (by kernel_rfl)
theorem is_lex_Print : Is prog 17 f17.ntmps (resOf prog f17) (bd prog f17) := Is.of (by kernel_rfl) (by kernel_rfl)
theorem is_law10_awake : Is prog 8 f8.ntmps (resOf prog f8) (bd prog f8) := Is.of (by kernel_rfl) (by kernel_rfl)
theorem is_law10_Own : Is prog 15 f15.ntmps (resOf prog f15) (bd prog f15) := Is.of (by kernel_rfl) (by kernel_rfl)
theorem is_ref03_Exp : Is prog 79 f79.ntmps (resOf prog f79) (bd prog f79) := Is.of (by kernel_rfl) (by kernel_rfl)
theorem is_ref03_Frac : Is prog 80 f80.ntmps (resOf prog f80) (bd prog f80) := Is.of (by kernel_rfl) (by kernel_rfl)
theorem is_ref03_Kind : Is prog 73 f73.ntmps (resOf prog f73) (bd prog f73) := Is.of (by kernel_rfl) (by kernel_rfl)
theorem is_ref03_Clean : Is prog 55 f55.ntmps (resOf prog f55) (bd prog f55) := Is.of (by kernel_rfl) (by kernel_rfl)
theorem is_ref04_Check : Is prog 34 f34.ntmps (resOf prog f34) (bd prog f34) := Is.of (by kernel_rfl) (by kernel_rfl)
theorem is_ref10_decimal : Is prog 35 f35.ntmps (resOf prog f35) (bd prog f35) := Is.of (by kernel_rfl) (by kernel_rfl)
theorem is_ref10_Literal : Is prog 19 f19.ntmps (resOf prog f19) (bd prog f19) := Is.of (by kernel_rfl) (by kernel_rfl)
theorem is_ref10_Word : Is prog 16 f16.ntmps (resOf prog f16) (bd prog f16) := Is.of (by kernel_rfl) (by kernel_rfl)
theorem is_ref10_Print : Is prog 18 f18.ntmps (resOf prog f18) (bd prog f18) := Is.of (by kernel_rfl) (by kernel_rfl)
theorem is_lex_Same_L1 : Is prog 37 f37.ntmps (resOf prog f37) (bd prog f37) := Is.of (by kernel_rfl) (by kernel_rfl)
theorem is_slices_EqualFunc_lex_Token : Is prog 36 f36.ntmps (resOf prog f36) (bd prog f36) := Is.of (by kernel_rfl) (by kernel_rfl)
theorem is_lex_Same : Is prog 20 f20.ntmps (resOf prog f20) (bd prog f20) := Is.of (by kernel_rfl) (by kernel_rfl)
theorem is_ref10_Same : Is prog 21 f21.ntmps (resOf prog f21) (bd prog f21) := Is.of (by kernel_rfl) (by kernel_rfl)
theorem is_law10_LexPrints : Is prog 4 f4.ntmps (resOf prog f4) (bd prog f4) := Is.of (by kernel_rfl) (by kernel_rfl)
def C_law04_Small : Con tb := .s 7 [true] (.c (.el tb_ok 0) .n) (fun N a => s_law04_Small N a.1) (R := Int) (.p (.i .i64)) (fun _ => ⟨rfl, (by kernel_rfl)⟩)
def C_law10_Over : Con tb := .s 14 [true, true] (.c (.r 1) (.c (.i .i64) .n)) (fun N a => s_law10_Over N a.1 a.2.1) (R := Int) (.p (.i .i64)) (fun _ => ⟨rfl, (by kernel_rfl)⟩)
def q_law10_Over_0 : LQ tb (((List lex_Token)) × (Int)) := (LQ.m [] [0, 5] (.c 0 (.r 1) (.c 5 (.i .i64) .n)) .n .n).re (fun a => (a.1.1, a.1.2.1)) (fun x => ((x.1, x.2, ()), (), ())) (fun _ => rfl)
def f_law10_Over_0 (N : Nat) (c : (List lex_Token)) (next : Int → Option Int) (v : Int) : Option Int := s_law10_Over_1 N c (fun u0 => next u0) v
abbrev r_law10_Over_0 (N : Nat) : ((List lex_Token)) × (Int) → Option Int := fun a => loopV (f_law10_Over_0 N a.1) N a.2
def C_fault_New : Con tb := .p 31 [true, true] (.c (.i .i64) (.c (.i .i64) .n)) (fun N a => s_fault_New N a.1 a.2.1) (R := Unit ⊕ (Int × Int)) (.or (.p .ni) (.m (R := Int × Int) (.ifc 81 (.dp (.c (.i .i64) (.c (.i .i64) .n)))) .n .n (fun z => (z.1.1, z.1.2.1)) (fun r => ((r.1, r.2, ()), (), ())) (fun _ => rfl))) (fun r => by rcases r with _ | _ <;> exact rfl)
def C_lex_small : Con tb := .s 45 [true] (.c (.i .u8) .n) (fun N a => s_lex_small N a.1) (R := Bool) (.p .b) (fun _ => ⟨rfl, (by kernel_rfl)⟩)
def C_lex_scanner_fail_v359 : Con tb := .m 48 [false, true] (.c (.ptr 0 0) (.c (.i .i64) .n)) (.c (.c .s (.c (.i .i64) (.c (.own 0) .n))) .n) (.l 1 .n) (fun N a => s_lex_scanner_fail_v359 N a.1.2.1 a.2.1.1.1 a.2.1.1.2.1 a.2.2.1) (R := (List UInt8 × Int × List lex_Token) ⊕ (Int × Int × List UInt8 × Int × List lex_Token)) (.or (.m (R := List UInt8 × Int × List lex_Token) .ni (.c (.c .s (.c (.i .i64) (.c (.own 0) .n))) .n) (.l 1 .n) (fun z => (z.2.1.1.1, z.2.1.1.2.1, z.2.2.1)) (fun r => ((), ((r.1, r.2.1, (), ()), ()), r.2.2, ())) (fun _ => rfl)) (.m (R := Int × Int × List UInt8 × Int × List lex_Token) (.ifc 81 (.dp (.c (.i .i64) (.c (.i .i64) .n)))) (.c (.c .s (.c (.i .i64) (.c (.own 0) .n))) .n) (.l 1 .n) (fun z => (z.1.1, z.1.2.1, z.2.1.1.1, z.2.1.1.2.1, z.2.2.1)) (fun r => ((r.1, r.2.1, ()), ((r.2.2.1, r.2.2.2.1, (), ()), ()), r.2.2.2.2, ())) (fun _ => rfl)))
def C_lex_digit : Con tb := .s 46 [true] (.c (.i .u8) .n) (fun N a => s_lex_digit N a.1) (R := Bool) (.p .b) (fun _ => ⟨rfl, (by kernel_rfl)⟩)
def C_lex_tail : Con tb := .s 66 [true] (.c (.i .u8) .n) (fun N a => s_lex_tail N a.1) (R := Bool) (.p .b) (fun _ => ⟨rfl, (by kernel_rfl)⟩)
def C_lex_scanner_length_v869 : Con tb := .m 65 [false, false] (.c (.ptr 0 0) (.c (.fn 66 .n .n) .n)) (.c (.c .s (.c (.i .i64) (.c (.own 0) .n))) .n) (.l 1 .n) (fun N a => s_lex_scanner_length_v869 N a.2.1.1.1 a.2.1.1.2.1 a.2.2.1) (R := Int × List UInt8 × Int × List lex_Token) (.m (R := Int × List UInt8 × Int × List lex_Token) (.i .i64) (.c (.c .s (.c (.i .i64) (.c (.own 0) .n))) .n) (.l 1 .n) (fun z => (z.1, z.2.1.1.1, z.2.1.1.2.1, z.2.2.1)) (fun r => (r.1, ((r.2.1, r.2.2.1, (), ()), ()), r.2.2.2, ())) (fun _ => rfl))
def q_lex_scanner_length_v869_0 : LQ tb (((List UInt8) × Int × (List lex_Token)) × (Int)) := (LQ.m [] [0, 1, 5] (.c 0 (.ptr 0 0) (.c 1 (.fn 66 .n .n) (.c 5 (.i .i64) .n))) (.c (.c .s (.c (.i .i64) (.c (.own 0) .n))) .n) (.l 1 .n)).re (fun a => ((a.2.1.1.1, a.2.1.1.2.1, a.2.2.1), a.1.2.2.1)) (fun x => (((), ((), ()), x.2, ()), ((x.1.1, x.1.2.1, (), ()), ()), x.1.2.2, ())) (fun _ => rfl)
def f_lex_scanner_length_v869_0 (N : Nat) (c : (List UInt8) × Int × (List lex_Token)) (next : Int → Option (Int × List UInt8 × Int × List lex_Token)) (v : Int) : Option (Int × List UInt8 × Int × List lex_Token) := s_lex_scanner_length_v869_1 N c.1 c.2.1 c.2.2 (fun u0 => next u0) v
abbrev r_lex_scanner_length_v869_0 (N : Nat) : ((List UInt8) × Int × (List lex_Token)) × (Int) → Option (Int × List UInt8 × Int × List lex_Token) := fun a => loopV (f_lex_scanner_length_v869_0 N a.1) N a.2
def C_value_OfFlag : Con tb := .s 68 [true] (.c .b .n) (fun N a => s_value_OfFlag N a.1) (R := value_Value) (.p (.el tb_ok 0)) (fun _ => ⟨rfl, (by kernel_rfl)⟩)
def C_lex_scanner_put_v420 : Con tb := .m 67 [false, true, true, true, true] (.c (.ptr 0 0) (.c (.i .i64) (.c (.i .u8) (.c .s (.c (.el tb_ok 0) .n))))) (.c (.c .s (.c (.i .i64) (.c (.own 0) .n))) .n) (.l 1 .n) (fun N a => s_lex_scanner_put_v420 N a.1.2.1 a.1.2.2.1 a.1.2.2.2.1 a.1.2.2.2.2.1 a.2.1.1.1 a.2.1.1.2.1 a.2.2.1) (R := List UInt8 × Int × List lex_Token) (.m (R := List UInt8 × Int × List lex_Token) .ni (.c (.c .s (.c (.i .i64) (.c (.own 1) .n))) .n) (.d (.l 1 .n)) (fun z => (z.2.1.1.1, z.2.1.1.2.1, z.2.2.1)) (fun r => ((), ((r.1, r.2.1, (), ()), ()), r.2.2, ())) (fun _ => rfl))
def C_schema_Reserved : Con tb := .s 69 [true] (.c .s .n) (fun N a => s_schema_Reserved N a.1) (R := Bool) (.p .b) (fun _ => ⟨rfl, (by kernel_rfl)⟩)
def C_lex_scanner_word_v558 : Con tb := .m 49 [false] (.c (.ptr 0 0) .n) (.c (.c .s (.c (.i .i64) (.c (.own 0) .n))) .n) (.l 1 .n) (fun N a => s_lex_scanner_word_v558 N a.2.1.1.1 a.2.1.1.2.1 a.2.2.1) (R := (List UInt8 × Int × List lex_Token) ⊕ (List UInt8 × Int × List lex_Token) ⊕ (Int × Int × List UInt8 × Int × List lex_Token)) (.or (.m (R := List UInt8 × Int × List lex_Token) .ni (.c (.c .s (.c (.i .i64) (.c (.own 1) .n))) .n) (.d (.l 1 .n)) (fun z => (z.2.1.1.1, z.2.1.1.2.1, z.2.2.1)) (fun r => ((), ((r.1, r.2.1, (), ()), ()), r.2.2, ())) (fun _ => rfl)) (.or (.m (R := List UInt8 × Int × List lex_Token) .ni (.c (.c .s (.c (.i .i64) (.c (.own 0) .n))) .n) (.l 1 .n) (fun z => (z.2.1.1.1, z.2.1.1.2.1, z.2.2.1)) (fun r => ((), ((r.1, r.2.1, (), ()), ()), r.2.2, ())) (fun _ => rfl)) (.m (R := Int × Int × List UInt8 × Int × List lex_Token) (.ifc 81 (.dp (.c (.i .i64) (.c (.i .i64) .n)))) (.c (.c .s (.c (.i .i64) (.c (.own 0) .n))) .n) (.l 1 .n) (fun z => (z.1.1, z.1.2.1, z.2.1.1.1, z.2.1.1.2.1, z.2.2.1)) (fun r => ((r.1, r.2.1, ()), ((r.2.2.1, r.2.2.2.1, (), ()), ()), r.2.2.2.2, ())) (fun _ => rfl))))
def C_lex_scanner_length_v416 : Con tb := .m 65 [false, false] (.c (.ptr 0 0) (.c (.fn 46 .n .n) .n)) (.c (.c .s (.c (.i .i64) (.c (.own 0) .n))) .n) (.l 1 .n) (fun N a => s_lex_scanner_length_v416 N a.2.1.1.1 a.2.1.1.2.1 a.2.2.1) (R := Int × List UInt8 × Int × List lex_Token) (.m (R := Int × List UInt8 × Int × List lex_Token) (.i .i64) (.c (.c .s (.c (.i .i64) (.c (.own 0) .n))) .n) (.l 1 .n) (fun z => (z.1, z.2.1.1.1, z.2.1.1.2.1, z.2.2.1)) (fun r => (r.1, ((r.2.1, r.2.2.1, (), ()), ()), r.2.2.2, ())) (fun _ => rfl))
def q_lex_scanner_length_v416_0 : LQ tb (((List UInt8) × Int × (List lex_Token)) × (Int)) := (LQ.m [] [0, 1, 5] (.c 0 (.ptr 0 0) (.c 1 (.fn 46 .n .n) (.c 5 (.i .i64) .n))) (.c (.c .s (.c (.i .i64) (.c (.own 0) .n))) .n) (.l 1 .n)).re (fun a => ((a.2.1.1.1, a.2.1.1.2.1, a.2.2.1), a.1.2.2.1)) (fun x => (((), ((), ()), x.2, ()), ((x.1.1, x.1.2.1, (), ()), ()), x.1.2.2, ())) (fun _ => rfl)
def f_lex_scanner_length_v416_0 (N : Nat) (c : (List UInt8) × Int × (List lex_Token)) (next : Int → Option (Int × List UInt8 × Int × List lex_Token)) (v : Int) : Option (Int × List UInt8 × Int × List lex_Token) := s_lex_scanner_length_v416_1 N c.1 c.2.1 c.2.2 (fun u0 => next u0) v
abbrev r_lex_scanner_length_v416_0 (N : Nat) : ((List UInt8) × Int × (List lex_Token)) × (Int) → Option (Int × List UInt8 × Int × List lex_Token) := fun a => loopV (f_lex_scanner_length_v416_0 N a.1) N a.2
def C_value_OfInt : Con tb := .s 12 [true] (.c (.i .i64) .n) (fun N a => s_value_OfInt N a.1) (R := value_Value) (.p (.el tb_ok 0)) (fun _ => ⟨rfl, (by kernel_rfl)⟩)
def C_lex_scanner_number_v558 : Con tb := .m 50 [false] (.c (.ptr 0 0) .n) (.c (.c .s (.c (.i .i64) (.c (.own 0) .n))) .n) (.l 1 .n) (fun N a => s_lex_scanner_number_v558 N a.2.1.1.1 a.2.1.1.2.1 a.2.2.1) (R := (List UInt8 × Int × List lex_Token) ⊕ (Int × Int × List UInt8 × Int × List lex_Token) ⊕ (List UInt8 × Int × List lex_Token)) (.or (.m (R := List UInt8 × Int × List lex_Token) .ni (.c (.c .s (.c (.i .i64) (.c (.own 0) .n))) .n) (.l 1 .n) (fun z => (z.2.1.1.1, z.2.1.1.2.1, z.2.2.1)) (fun r => ((), ((r.1, r.2.1, (), ()), ()), r.2.2, ())) (fun _ => rfl)) (.or (.m (R := Int × Int × List UInt8 × Int × List lex_Token) (.ifc 81 (.dp (.c (.i .i64) (.c (.i .i64) .n)))) (.c (.c .s (.c (.i .i64) (.c (.own 0) .n))) .n) (.l 1 .n) (fun z => (z.1.1, z.1.2.1, z.2.1.1.1, z.2.1.1.2.1, z.2.2.1)) (fun r => ((r.1, r.2.1, ()), ((r.2.2.1, r.2.2.2.1, (), ()), ()), r.2.2.2.2, ())) (fun _ => rfl)) (.m (R := List UInt8 × Int × List lex_Token) .ni (.c (.c .s (.c (.i .i64) (.c (.own 1) .n))) .n) (.d (.l 1 .n)) (fun z => (z.2.1.1.1, z.2.1.1.2.1, z.2.2.1)) (fun r => ((), ((r.1, r.2.1, (), ()), ()), r.2.2, ())) (fun _ => rfl))))
def q_lex_scanner_number_v558_0 : LQ tb ((Int × Int × (List UInt8) × Int × (List lex_Token)) × (Int × Int)) := (LQ.m [] [0, 3, 4, 25, 26] (.c 0 (.ptr 0 0) (.c 3 (.i .i64) (.c 4 (.i .i64) (.c 25 (.i .i64) (.c 26 (.i .i64) .n))))) (.c (.c .s (.c (.i .i64) (.c (.own 0) .n))) .n) (.l 1 .n)).re (fun a => ((a.1.2.1, a.1.2.2.2.1, a.2.1.1.1, a.2.1.1.2.1, a.2.2.1), (a.1.2.2.1, a.1.2.2.2.2.1))) (fun x => (((), x.1.1, x.2.1, x.1.2.1, x.2.2, ()), ((x.1.2.2.1, x.1.2.2.2.1, (), ()), ()), x.1.2.2.2.2, ())) (fun _ => rfl)
def f_lex_scanner_number_v558_0 (N : Nat) (c : Int × Int × (List UInt8) × Int × (List lex_Token)) (next : (Int × Int) → Option ((List UInt8 × Int × List lex_Token) ⊕ (Int × Int × List UInt8 × Int × List lex_Token) ⊕ (List UInt8 × Int × List lex_Token))) (v : Int × Int) : Option ((List UInt8 × Int × List lex_Token) ⊕ (Int × Int × List UInt8 × Int × List lex_Token) ⊕ (List UInt8 × Int × List lex_Token)) := s_lex_scanner_number_v558_1 N c.1 c.2.1 c.2.2.1 c.2.2.2.1 c.2.2.2.2 (fun u0 u1 => next (u0, u1)) v.1 v.2
abbrev r_lex_scanner_number_v558_0 (N : Nat) : (Int × Int × (List UInt8) × Int × (List lex_Token)) × (Int × Int) → Option ((List UInt8 × Int × List lex_Token) ⊕ (Int × Int × List UInt8 × Int × List lex_Token) ⊕ (List UInt8 × Int × List lex_Token)) := fun a => loopV (f_lex_scanner_number_v558_0 N a.1) N a.2
def C_stringslite_IndexByte : Con tb := .s 64 [true, true] (.c .s (.c (.i .u8) .n)) (fun N a => s_stringslite_IndexByte N a.1 a.2.1) (R := Int) (.p (.i .i64)) (fun _ => ⟨rfl, (by kernel_rfl)⟩)
def C_strings_IndexByte : Con tb := .s 47 [true, true] (.c .s (.c (.i .u8) .n)) (fun N a => s_strings_IndexByte N a.1 a.2.1) (R := Int) (.p (.i .i64)) (fun _ => ⟨rfl, (by kernel_rfl)⟩)
def C_lex_base16 : Con tb := .s 70 [true] (.c (.i .u8) .n) (fun N a => s_lex_base16 N a.1) (R := Int) (.p (.i .i64)) (fun _ => ⟨rfl, (by kernel_rfl)⟩)
def C_real_of : Con tb := .s 44 [true] (.c (.i .u64) .n) (fun N a => s_real_of N a.1) (R := Nat) (.p (.f .f64)) (fun _ => ⟨rfl, (by kernel_rfl)⟩)
def C_real_Clean : Con tb := .s 30 [true] (.c (.i .u64) .n) (fun N a => s_real_Clean N a.1) (R := Int) (.p (.i .u64)) (fun _ => ⟨rfl, (by kernel_rfl)⟩)
def C_value_OfReal : Con tb := .s 25 [true] (.c (.i .u64) .n) (fun N a => s_value_OfReal N a.1) (R := value_Value) (.p (.el tb_ok 0)) (fun _ => ⟨rfl, (by kernel_rfl)⟩)
def C_lex_scanner_double_v558 : Con tb := .m 51 [false] (.c (.ptr 0 0) .n) (.c (.c .s (.c (.i .i64) (.c (.own 0) .n))) .n) (.l 1 .n) (fun N a => s_lex_scanner_double_v558 N a.2.1.1.1 a.2.1.1.2.1 a.2.2.1) (R := (List UInt8 × Int × List lex_Token) ⊕ (Int × Int × List UInt8 × Int × List lex_Token) ⊕ (List UInt8 × Int × List lex_Token)) (.or (.m (R := List UInt8 × Int × List lex_Token) .ni (.c (.c .s (.c (.i .i64) (.c (.own 0) .n))) .n) (.l 1 .n) (fun z => (z.2.1.1.1, z.2.1.1.2.1, z.2.2.1)) (fun r => ((), ((r.1, r.2.1, (), ()), ()), r.2.2, ())) (fun _ => rfl)) (.or (.m (R := Int × Int × List UInt8 × Int × List lex_Token) (.ifc 81 (.dp (.c (.i .i64) (.c (.i .i64) .n)))) (.c (.c .s (.c (.i .i64) (.c (.own 0) .n))) .n) (.l 1 .n) (fun z => (z.1.1, z.1.2.1, z.2.1.1.1, z.2.1.1.2.1, z.2.2.1)) (fun r => ((r.1, r.2.1, ()), ((r.2.2.1, r.2.2.2.1, (), ()), ()), r.2.2.2.2, ())) (fun _ => rfl)) (.m (R := List UInt8 × Int × List lex_Token) .ni (.c (.c .s (.c (.i .i64) (.c (.own 1) .n))) .n) (.d (.l 1 .n)) (fun z => (z.2.1.1.1, z.2.1.1.2.1, z.2.2.1)) (fun r => ((), ((r.1, r.2.1, (), ()), ()), r.2.2, ())) (fun _ => rfl))))
def q_lex_scanner_double_v558_0 : LQ tb (((List UInt8) × Int × (List lex_Token)) × (Int × Int)) := (LQ.m [] [0, 3, 19] (.c 0 (.ptr 0 0) (.c 3 (.i .u64) (.c 19 (.i .i64) .n))) (.c (.c .s (.c (.i .i64) (.c (.own 0) .n))) .n) (.l 1 .n)).re (fun a => ((a.2.1.1.1, a.2.1.1.2.1, a.2.2.1), (a.1.2.1, a.1.2.2.1))) (fun x => (((), x.2.1, x.2.2, ()), ((x.1.1, x.1.2.1, (), ()), ()), x.1.2.2, ())) (fun _ => rfl)
def f_lex_scanner_double_v558_0 (N : Nat) (c : (List UInt8) × Int × (List lex_Token)) (next : (Int × Int) → Option ((List UInt8 × Int × List lex_Token) ⊕ (Int × Int × List UInt8 × Int × List lex_Token) ⊕ (List UInt8 × Int × List lex_Token))) (v : Int × Int) : Option ((List UInt8 × Int × List lex_Token) ⊕ (Int × Int × List UInt8 × Int × List lex_Token) ⊕ (List UInt8 × Int × List lex_Token)) := s_lex_scanner_double_v558_1 N c.1 c.2.1 c.2.2 (fun u0 u1 => next (u0, u1)) v.1 v.2
abbrev r_lex_scanner_double_v558_0 (N : Nat) : ((List UInt8) × Int × (List lex_Token)) × (Int × Int) → Option ((List UInt8 × Int × List lex_Token) ⊕ (Int × Int × List UInt8 × Int × List lex_Token) ⊕ (List UInt8 × Int × List lex_Token)) := fun a => loopV (f_lex_scanner_double_v558_0 N a.1) N a.2
def C_lex_scanner_escaped_v359 : Con tb := .m 71 [false, true] (.c (.ptr 0 0) (.c (.i .i64) .n)) (.c (.c .s (.c (.i .i64) (.c (.own 0) .n))) .n) (.l 1 .n) (fun N a => s_lex_scanner_escaped_v359 N a.1.2.1 a.2.1.1.1 a.2.1.1.2.1 a.2.2.1) (R := Int × Bool × List UInt8 × Int × List lex_Token) (.m (R := Int × Bool × List UInt8 × Int × List lex_Token) (.tu (.c (.i .u8) (.o .b))) (.c (.c .s (.c (.i .i64) (.c (.own 0) .n))) .n) (.l 1 .n) (fun z => (z.1.1, z.1.2, z.2.1.1.1, z.2.1.1.2.1, z.2.2.1)) (fun r => ((r.1, r.2.1), ((r.2.2.1, r.2.2.2.1, (), ()), ()), r.2.2.2.2, ())) (fun _ => rfl))
def C_value_OfText : Con tb := .s 24 [true] (.c .s .n) (fun N a => s_value_OfText N a.1) (R := value_Value) (.p (.el tb_ok 0)) (fun _ => ⟨rfl, (by kernel_rfl)⟩)
def C_lex_scanner_quoted_v558 : Con tb := .m 52 [false] (.c (.ptr 0 0) .n) (.c (.c .s (.c (.i .i64) (.c (.own 0) .n))) .n) (.l 1 .n) (fun N a => s_lex_scanner_quoted_v558 N a.2.1.1.1 a.2.1.1.2.1 a.2.2.1) (R := (List UInt8 × Int × List lex_Token) ⊕ (Int × Int × List UInt8 × Int × List lex_Token) ⊕ (List UInt8 × Int × List lex_Token)) (.or (.m (R := List UInt8 × Int × List lex_Token) .ni (.c (.c .s (.c (.i .i64) (.c (.own 0) .n))) .n) (.l 1 .n) (fun z => (z.2.1.1.1, z.2.1.1.2.1, z.2.2.1)) (fun r => ((), ((r.1, r.2.1, (), ()), ()), r.2.2, ())) (fun _ => rfl)) (.or (.m (R := Int × Int × List UInt8 × Int × List lex_Token) (.ifc 81 (.dp (.c (.i .i64) (.c (.i .i64) .n)))) (.c (.c .s (.c (.i .i64) (.c (.own 0) .n))) .n) (.l 1 .n) (fun z => (z.1.1, z.1.2.1, z.2.1.1.1, z.2.1.1.2.1, z.2.2.1)) (fun r => ((r.1, r.2.1, ()), ((r.2.2.1, r.2.2.2.1, (), ()), ()), r.2.2.2.2, ())) (fun _ => rfl)) (.m (R := List UInt8 × Int × List lex_Token) .ni (.c (.c .s (.c (.i .i64) (.c (.own 1) .n))) .n) (.d (.l 1 .n)) (fun z => (z.2.1.1.1, z.2.1.1.2.1, z.2.2.1)) (fun r => ((), ((r.1, r.2.1, (), ()), ()), r.2.2, ())) (fun _ => rfl))))
def q_lex_scanner_quoted_v558_0 : LQ tb ((Unit) × (Int × (List UInt8) × Int × (List lex_Token) × (List Int))) := (LQ.m [(3, none, 2)] [0, 3, 4, 5] (.c 0 (.ptr 0 0) (.c 3 (.own 1) (.c 4 (.i .i64) (.c 5 (.lb false) .n)))) (.c (.c .s (.c (.i .i64) (.c (.own 0) .n))) .n) (.l 1 (.l 2 .n))).re (fun a => ((), (a.1.2.2.1, a.2.1.1.1, a.2.1.1.2.1, a.2.2.1, a.2.2.2.1))) (fun x => (((), (), x.2.1, (), ()), ((x.2.2.1, x.2.2.2.1, (), ()), ()), x.2.2.2.2.1, x.2.2.2.2.2, ())) (fun _ => rfl)
def f_lex_scanner_quoted_v558_0 (N : Nat) (c : Unit) (next : (Int × (List UInt8) × Int × (List lex_Token) × (List Int)) → Option ((List UInt8 × Int × List lex_Token) ⊕ (Int × Int × List UInt8 × Int × List lex_Token) ⊕ (List UInt8 × Int × List lex_Token))) (v : Int × (List UInt8) × Int × (List lex_Token) × (List Int)) : Option ((List UInt8 × Int × List lex_Token) ⊕ (Int × Int × List UInt8 × Int × List lex_Token) ⊕ (List UInt8 × Int × List lex_Token)) := s_lex_scanner_quoted_v558_1 N (fun u0 u1 u2 u3 u4 => next (u0, u1, u2, u3, u4)) v.1 v.2.1 v.2.2.1 v.2.2.2.1 v.2.2.2.2
abbrev r_lex_scanner_quoted_v558_0 (N : Nat) : (Unit) × (Int × (List UInt8) × Int × (List lex_Token) × (List Int)) → Option ((List UInt8 × Int × List lex_Token) ⊕ (Int × Int × List UInt8 × Int × List lex_Token) ⊕ (List UInt8 × Int × List lex_Token)) := fun a => loopV (f_lex_scanner_quoted_v558_0 N a.1) N a.2
def C_lex_scanner_sign_v558 : Con tb := .m 53 [false] (.c (.ptr 0 0) .n) (.c (.c .s (.c (.i .i64) (.c (.own 0) .n))) .n) (.l 1 .n) (fun N a => s_lex_scanner_sign_v558 N a.2.1.1.1 a.2.1.1.2.1 a.2.2.1) (R := List UInt8 × Int × List lex_Token) (.m (R := List UInt8 × Int × List lex_Token) .ni (.c (.c .s (.c (.i .i64) (.c (.own 1) .n))) .n) (.d (.l 1 .n)) (fun z => (z.2.1.1.1, z.2.1.1.2.1, z.2.2.1)) (fun r => ((), ((r.1, r.2.1, (), ()), ()), r.2.2, ())) (fun _ => rfl))
def C_lex_scanner_token_v558 : Con tb := .m 32 [false] (.c (.ptr 0 0) .n) (.c (.c .s (.c (.i .i64) (.c (.own 0) .n))) .n) (.l 1 .n) (fun N a => s_lex_scanner_token_v558 N a.2.1.1.1 a.2.1.1.2.1 a.2.2.1) (R := (List UInt8 × Int × List lex_Token) ⊕ (Int × Int × List UInt8 × Int × List lex_Token) ⊕ (List UInt8 × Int × List lex_Token)) (.or (.m (R := List UInt8 × Int × List lex_Token) .ni (.c (.c .s (.c (.i .i64) (.c (.own 0) .n))) .n) (.l 1 .n) (fun z => (z.2.1.1.1, z.2.1.1.2.1, z.2.2.1)) (fun r => ((), ((r.1, r.2.1, (), ()), ()), r.2.2, ())) (fun _ => rfl)) (.or (.m (R := Int × Int × List UInt8 × Int × List lex_Token) (.ifc 81 (.dp (.c (.i .i64) (.c (.i .i64) .n)))) (.c (.c .s (.c (.i .i64) (.c (.own 0) .n))) .n) (.l 1 .n) (fun z => (z.1.1, z.1.2.1, z.2.1.1.1, z.2.1.1.2.1, z.2.2.1)) (fun r => ((r.1, r.2.1, ()), ((r.2.2.1, r.2.2.2.1, (), ()), ()), r.2.2.2.2, ())) (fun _ => rfl)) (.m (R := List UInt8 × Int × List lex_Token) .ni (.c (.c .s (.c (.i .i64) (.c (.own 1) .n))) .n) (.d (.l 1 .n)) (fun z => (z.2.1.1.1, z.2.1.1.2.1, z.2.2.1)) (fun r => ((), ((r.1, r.2.1, (), ()), ()), r.2.2, ())) (fun _ => rfl))))
def C_lex_Scan : Con tb := .p 11 [true] (.c .s .n) (fun N a => s_lex_Scan N a.1) (R := (List lex_Token) ⊕ (List lex_Token × Int × Int)) (.or (.m (R := List lex_Token) (.tu (.c (.r 1) (.c .ni .n))) .n .n (fun z => z.1.1) (fun r => ((r, (), ()), (), ())) (fun _ => rfl)) (.m (R := List lex_Token × Int × Int) (.tu (.c (.r 1) (.o (.ifc 81 (.dp (.c (.i .i64) (.c (.i .i64) .n))))))) .n .n (fun z => (z.1.1, z.1.2.1, z.1.2.2.1)) (fun r => ((r.1, r.2.1, r.2.2, ()), (), ())) (fun _ => rfl))) (fun r => by rcases r with _ | _ <;> exact rfl)
def q_lex_Scan_0 : LQ tb (((List UInt8)) × ((List UInt8) × Int × (List lex_Token))) := (LQ.m [(4, some 2, 1)] [0, 4] (.c 0 .s (.c 4 (.ptr 0 0) .n)) (.c (.c .s (.c (.i .i64) (.c (.own 0) .n))) .n) (.l 1 .n)).re (fun a => (a.1.1, (a.2.1.1.1, a.2.1.1.2.1, a.2.2.1))) (fun x => ((x.1, (), ()), ((x.2.1, x.2.2.1, (), ()), ()), x.2.2.2, ())) (fun _ => rfl)
def f_lex_Scan_0 (N : Nat) (c : (List UInt8)) (next : ((List UInt8) × Int × (List lex_Token)) → Option ((List lex_Token) ⊕ (List lex_Token × Int × Int))) (v : (List UInt8) × Int × (List lex_Token)) : Option ((List lex_Token) ⊕ (List lex_Token × Int × Int)) := s_lex_Scan_1 N c (fun u0 u1 u2 => next (u0, u1, u2)) v.1 v.2.1 v.2.2
abbrev r_lex_Scan_0 (N : Nat) : ((List UInt8)) × ((List UInt8) × Int × (List lex_Token)) → Option ((List lex_Token) ⊕ (List lex_Token × Int × Int)) := fun a => loopV (f_lex_Scan_0 N a.1) N a.2
def C_fault_Code_n : Con tb := .s 22 [false] (.c .ni .n) (fun N a => s_fault_Code_n N) (R := Int) (.p (.i .i64)) (fun _ => ⟨rfl, (by kernel_rfl)⟩)
def C_fault_find_n : Con tb := .s 38 [false] (.c .ni .n) (fun N a => s_fault_find_n N) (R := Unit) (.p .np) (fun _ => ⟨rfl, (by kernel_rfl)⟩)
def C_fault_At_n : Con tb := .s 23 [false] (.c .ni .n) (fun N a => s_fault_At_n N) (R := Int) (.p (.i .i64)) (fun _ => ⟨rfl, (by kernel_rfl)⟩)
def C_value_core : Con tb := .p 29 [true] (.c (.el tb_ok 0) .n) (fun N a => s_value_core N a.1) (R := Int ⊕ Int ⊕ Int ⊕ (List UInt8) ⊕ Unit) (.or (.p (.ifc 66 (.i .i64))) (.or (.p (.ifc 67 (.i .i64))) (.or (.p (.ifc 68 (.i .u64))) (.or (.p (.ifc 70 .s)) (.p .ni))))) (fun r => by rcases r with _ | _ | _ | _ | _ <;> exact rfl)
def C_value_number_whole : Con tb := .s 99 [true] (.c (.i .i64) .n) (fun N a => s_value_number_whole N a.1) (R := value_Value) (.p (.el tb_ok 0)) (fun _ => ⟨rfl, (by kernel_rfl)⟩)
def C_value_flag_whole : Con tb := .s 100 [true] (.c (.i .i64) .n) (fun N a => s_value_flag_whole N a.1) (R := value_Value) (.p (.el tb_ok 0)) (fun _ => ⟨rfl, (by kernel_rfl)⟩)
def C_value_double_whole : Con tb := .s 101 [true] (.c (.i .u64) .n) (fun N a => s_value_double_whole N a.1) (R := value_Value) (.p (.el tb_ok 0)) (fun _ => ⟨rfl, (by kernel_rfl)⟩)
def C_value_words_whole : Con tb := .s 102 [true] (.c .s .n) (fun N a => s_value_words_whole N a.1) (R := value_Value) (.p (.el tb_ok 0)) (fun _ => ⟨rfl, (by kernel_rfl)⟩)
def C_value_Check : Con tb := .s 10 [true] (.c (.el tb_ok 0) .n) (fun N a => s_value_Check N a.1) (R := Int) (.p (.i .i64)) (fun _ => ⟨rfl, (by kernel_rfl)⟩)
def C_lex_whole : Con tb := .s 26 [true] (.c (.i .i64) .n) (fun N a => s_lex_whole N a.1) (R := List UInt8) (.p .s) (fun _ => ⟨rfl, (by kernel_rfl)⟩)
def C_lex_bits : Con tb := .s 27 [true] (.c (.i .u64) .n) (fun N a => s_lex_bits N a.1) (R := List UInt8) (.p .s) (fun _ => ⟨rfl, (by kernel_rfl)⟩)
def C_lex_text : Con tb := .s 28 [true] (.c .s .n) (fun N a => s_lex_text N a.1) (R := List UInt8) (.p .s) (fun _ => ⟨rfl, (by kernel_rfl)⟩)
def C_lex_Literal : Con tb := .s 9 [true] (.c (.el tb_ok 0) .n) (fun N a => s_lex_Literal N a.1) (R := List UInt8) (.p .s) (fun _ => ⟨rfl, (by kernel_rfl)⟩)
def C_lex_Word : Con tb := .s 13 [true] (.c (.el tb_ok 1) .n) (fun N a => s_lex_Word N a.1) (R := List UInt8) (.p .s) (fun _ => ⟨rfl, (by kernel_rfl)⟩)
def C_strings_Join : Con tb := .s 33 [true, true] (.c (.r 3) (.c .s .n)) (fun N a => s_strings_Join N a.1 a.2.1) (R := List UInt8) (.p .s) (fun _ => ⟨rfl, (by kernel_rfl)⟩)
def C_lex_Print : Con tb := .s 17 [true] (.c (.r 1) .n) (fun N a => s_lex_Print N a.1) (R := List UInt8) (.p .s) (fun _ => ⟨rfl, (by kernel_rfl)⟩)
def q_lex_Print_0 : LQ tb (((List lex_Token) × Int) × (Int × (List (List UInt8)))) := (LQ.m [(3, none, 3)] [3, 6, 7, 8] (.c 3 (.own 0) (.c 6 (.r 1) (.c 7 (.i .i64) (.c 8 (.i .i64) .n)))) .n (.l 3 .n)).re (fun a => ((a.1.2.1, a.1.2.2.1), (a.1.2.2.2.1, a.2.2.1))) (fun x => (((), x.1.1, x.1.2, x.2.1, ()), (), x.2.2, ())) (fun _ => rfl)
def f_lex_Print_0 (N : Nat) (c : (List lex_Token) × Int) (next : (Int × (List (List UInt8))) → Option (List UInt8)) (v : Int × (List (List UInt8))) : Option (List UInt8) := s_lex_Print_1 N c.1 c.2 (fun u0 u1 => next (u0, u1)) v.1 v.2
abbrev r_lex_Print_0 (N : Nat) : ((List lex_Token) × Int) × (Int × (List (List UInt8))) → Option (List UInt8) := fun a => loopV (f_lex_Print_0 N a.1) N a.2
def C_fault_find_f : Con tb := .p 38 [false] (.c (.ifc 81 (.dp (.c (.i .i64) (.c (.i .i64) .n)))) .n) (fun N a => s_fault_find_f N a.1.1 a.1.2.1) (R := Int × Int) (.m (R := Int × Int) (.dp (.c (.i .i64) (.c (.i .i64) .n))) .n .n (fun z => (z.1.1, z.1.2.1)) (fun r => ((r.1, r.2, ()), (), ())) (fun _ => rfl)) (fun _ => rfl)
def C_fault_Code_f : Con tb := .s 22 [false] (.c (.ifc 81 (.dp (.c (.i .i64) (.c (.i .i64) .n)))) .n) (fun N a => s_fault_Code_f N a.1.1 a.1.2.1) (R := Int) (.p (.i .i64)) (fun _ => ⟨rfl, (by kernel_rfl)⟩)
def C_fault_At_f : Con tb := .s 23 [false] (.c (.ifc 81 (.dp (.c (.i .i64) (.c (.i .i64) .n)))) .n) (fun N a => s_fault_At_f N a.1.1 a.1.2.1) (R := Int) (.p (.i .i64)) (fun _ => ⟨rfl, (by kernel_rfl)⟩)
def C_law10_awake : Con tb := .s 8 [] .n (fun N a => s_law10_awake N) (R := Bool) (.p .b) (fun _ => ⟨rfl, (by kernel_rfl)⟩)
def C_law10_Own : Con tb := .p 15 [true] (.c (.r 1) .n) (fun N a => s_law10_Own N a.1) (R := List lex_Token) (.p (.r 1)) (fun _ => rfl)
def q_law10_Own_0 : LQ tb (((List lex_Token)) × (Int × (List lex_Token))) := (LQ.m [(3, none, 1)] [0, 3, 4] (.c 0 (.r 1) (.c 3 (.own 0) (.c 4 (.i .i64) .n))) .n (.l 1 .n)).re (fun a => (a.1.1, (a.1.2.2.1, a.2.2.1))) (fun x => ((x.1, (), x.2.1, ()), (), x.2.2, ())) (fun _ => rfl)
def f_law10_Own_0 (N : Nat) (c : (List lex_Token)) (next : (Int × (List lex_Token)) → Option (List lex_Token)) (v : Int × (List lex_Token)) : Option (List lex_Token) := s_law10_Own_1 N c (fun u0 u1 => next (u0, u1)) v.1 v.2
abbrev r_law10_Own_0 (N : Nat) : ((List lex_Token)) × (Int × (List lex_Token)) → Option (List lex_Token) := fun a => loopV (f_law10_Own_0 N a.1) N a.2
def C_ref03_Exp : Con tb := .s 79 [true] (.c (.i .u64) .n) (fun N a => s_ref03_Exp N a.1) (R := Int) (.p (.i .i64)) (fun _ => ⟨rfl, (by kernel_rfl)⟩)
def C_ref03_Frac : Con tb := .s 80 [true] (.c (.i .u64) .n) (fun N a => s_ref03_Frac N a.1) (R := Int) (.p (.i .u64)) (fun _ => ⟨rfl, (by kernel_rfl)⟩)
def C_ref03_Kind : Con tb := .s 73 [true] (.c (.i .u64) .n) (fun N a => s_ref03_Kind N a.1) (R := Int) (.p (.i .u8)) (fun _ => ⟨rfl, (by kernel_rfl)⟩)
def C_ref03_Clean : Con tb := .s 55 [true] (.c (.i .u64) .n) (fun N a => s_ref03_Clean N a.1) (R := Int) (.p (.i .u64)) (fun _ => ⟨rfl, (by kernel_rfl)⟩)
def C_ref04_Check : Con tb := .s 34 [true] (.c (.el tb_ok 0) .n) (fun N a => s_ref04_Check N a.1) (R := Int) (.p (.i .i64)) (fun _ => ⟨rfl, (by kernel_rfl)⟩)
def C_ref10_decimal : Con tb := .s 35 [true] (.c (.i .i64) .n) (fun N a => s_ref10_decimal N a.1) (R := List UInt8) (.p .s) (fun _ => ⟨rfl, (by kernel_rfl)⟩)
def q_ref10_decimal_0 : LQ tb ((Unit) × (Int × (List UInt8))) := (LQ.m [] [0, 3] (.c 0 (.i .i64) (.c 3 .s .n)) .n .n).re (fun a => ((), (a.1.1, a.1.2.1))) (fun x => ((x.2.1, x.2.2, ()), (), ())) (fun _ => rfl)
def f_ref10_decimal_0 (N : Nat) (c : Unit) (next : (Int × (List UInt8)) → Option (List UInt8)) (v : Int × (List UInt8)) : Option (List UInt8) := s_ref10_decimal_1 N (fun u0 u1 => next (u0, u1)) v.1 v.2
abbrev r_ref10_decimal_0 (N : Nat) : (Unit) × (Int × (List UInt8)) → Option (List UInt8) := fun a => loopV (f_ref10_decimal_0 N a.1) N a.2
def C_ref10_Literal : Con tb := .s 19 [true] (.c (.el tb_ok 0) .n) (fun N a => s_ref10_Literal N a.1) (R := List UInt8) (.p .s) (fun _ => ⟨rfl, (by kernel_rfl)⟩)
def q_ref10_Literal_0 : LQ tb ((Unit) × ((List UInt8) × Int × Int)) := (LQ.m [] [3, 4, 5] (.c 3 .s (.c 4 (.i .u64) (.c 5 (.i .i64) .n))) .n .n).re (fun a => ((), (a.1.1, a.1.2.1, a.1.2.2.1))) (fun x => ((x.2.1, x.2.2.1, x.2.2.2, ()), (), ())) (fun _ => rfl)
def q_ref10_Literal_2 : LQ tb ((Int × Int × Int × (List UInt8)) × ((List UInt8) × Int)) := (LQ.m [] [1, 6, 7] (.c 1 (.ptr 0 0) (.c 6 .s (.c 7 (.i .i64) .n))) (.c (.c (.i .u8) (.c (.i .i64) (.c (.i .u64) (.c .s .n)))) .n) .n).re (fun a => ((a.2.1.1.1, a.2.1.1.2.1, a.2.1.1.2.2.1, a.2.1.1.2.2.2.1), (a.1.2.1, a.1.2.2.1))) (fun x => (((), x.2.1, x.2.2, ()), ((x.1.1, x.1.2.1, x.1.2.2.1, x.1.2.2.2, ()), ()), ())) (fun _ => rfl)
def f_ref10_Literal_0 (N : Nat) (c : Unit) (next : ((List UInt8) × Int × Int) → Option (List UInt8)) (v : (List UInt8) × Int × Int) : Option (List UInt8) := s_ref10_Literal_1 N (fun u0 u1 u2 => next (u0, u1, u2)) v.1 v.2.1 v.2.2
abbrev r_ref10_Literal_0 (N : Nat) : (Unit) × ((List UInt8) × Int × Int) → Option (List UInt8) := fun a => loopV (f_ref10_Literal_0 N a.1) N a.2
def f_ref10_Literal_2 (N : Nat) (c : Int × Int × Int × (List UInt8)) (next : ((List UInt8) × Int) → Option (List UInt8)) (v : (List UInt8) × Int) : Option (List UInt8) := s_ref10_Literal_2 N c.2.2.2 (fun u0 u1 => next (u0, u1)) v.1 v.2
abbrev r_ref10_Literal_2 (N : Nat) : (Int × Int × Int × (List UInt8)) × ((List UInt8) × Int) → Option (List UInt8) := fun a => loopV (f_ref10_Literal_2 N a.1) N a.2
def C_ref10_Word : Con tb := .s 16 [true] (.c (.el tb_ok 1) .n) (fun N a => s_ref10_Word N a.1) (R := List UInt8) (.p .s) (fun _ => ⟨rfl, (by kernel_rfl)⟩)
def C_ref10_Print : Con tb := .s 18 [true] (.c (.r 1) .n) (fun N a => s_ref10_Print N a.1) (R := List UInt8) (.p .s) (fun _ => ⟨rfl, (by kernel_rfl)⟩)
def q_ref10_Print_0 : LQ tb (((List lex_Token)) × ((List UInt8) × Int)) := (LQ.m [] [0, 3, 4] (.c 0 (.r 1) (.c 3 .s (.c 4 (.i .i64) .n))) .n .n).re (fun a => (a.1.1, (a.1.2.1, a.1.2.2.1))) (fun x => ((x.1, x.2.1, x.2.2, ()), (), ())) (fun _ => rfl)
def f_ref10_Print_0 (N : Nat) (c : (List lex_Token)) (next : ((List UInt8) × Int) → Option (List UInt8)) (v : (List UInt8) × Int) : Option (List UInt8) := s_ref10_Print_1 N c (fun u0 u1 => next (u0, u1)) v.1 v.2
abbrev r_ref10_Print_0 (N : Nat) : ((List lex_Token)) × ((List UInt8) × Int) → Option (List UInt8) := fun a => loopV (f_ref10_Print_0 N a.1) N a.2
def C_lex_Same_L1 : Con tb := .s 37 [true, true] (.c (.el tb_ok 1) (.c (.el tb_ok 1) .n)) (fun N a => s_lex_Same_L1 N a.1 a.2.1) (R := Bool) (.p .b) (fun _ => ⟨rfl, (by kernel_rfl)⟩)
def C_slices_EqualFunc_lex_Token_v798 : Con tb := .s 36 [true, true, false] (.c (.r 1) (.c (.r 1) (.c (.fn 37 .n .n) .n))) (fun N a => s_slices_EqualFunc_lex_Token_v798 N a.1 a.2.1) (R := Bool) (.p .b) (fun _ => ⟨rfl, (by kernel_rfl)⟩)
def q_slices_EqualFunc_lex_Token_v798_0 : LQ tb (((List lex_Token) × (List lex_Token) × Int) × (Int)) := (LQ.m [] [1, 2, 15, 16, 17] (.c 1 (.r 1) (.c 2 (.fn 37 .n .n) (.c 15 (.r 1) (.c 16 (.i .i64) (.c 17 (.i .i64) .n))))) .n .n).re (fun a => ((a.1.1, a.1.2.2.1, a.1.2.2.2.1), a.1.2.2.2.2.1)) (fun x => ((x.1.1, ((), ()), x.1.2.1, x.1.2.2, x.2, ()), (), ())) (fun _ => rfl)
def f_slices_EqualFunc_lex_Token_v798_0 (N : Nat) (c : (List lex_Token) × (List lex_Token) × Int) (next : Int → Option Bool) (v : Int) : Option Bool := s_slices_EqualFunc_lex_Token_v798_1 N c.1 c.2.1 c.2.2 (fun u0 => next u0) v
abbrev r_slices_EqualFunc_lex_Token_v798_0 (N : Nat) : ((List lex_Token) × (List lex_Token) × Int) × (Int) → Option Bool := fun a => loopV (f_slices_EqualFunc_lex_Token_v798_0 N a.1) N a.2
def C_lex_Same : Con tb := .s 20 [true, true] (.c (.r 1) (.c (.r 1) .n)) (fun N a => s_lex_Same N a.1 a.2.1) (R := Bool) (.p .b) (fun _ => ⟨rfl, (by kernel_rfl)⟩)
def C_ref10_Same : Con tb := .s 21 [true, true] (.c (.r 1) (.c (.r 1) .n)) (fun N a => s_ref10_Same N a.1 a.2.1) (R := Bool) (.p .b) (fun _ => ⟨rfl, (by kernel_rfl)⟩)
def q_ref10_Same_0 : LQ tb (((List lex_Token) × (List lex_Token)) × (Int)) := (LQ.m [] [0, 1, 5] (.c 0 (.r 1) (.c 1 (.r 1) (.c 5 (.i .i64) .n))) .n .n).re (fun a => ((a.1.1, a.1.2.1), a.1.2.2.1)) (fun x => ((x.1.1, x.1.2, x.2, ()), (), ())) (fun _ => rfl)
def f_ref10_Same_0 (N : Nat) (c : (List lex_Token) × (List lex_Token)) (next : Int → Option Bool) (v : Int) : Option Bool := s_ref10_Same_1 N c.1 c.2 (fun u0 => next u0) v
abbrev r_ref10_Same_0 (N : Nat) : ((List lex_Token) × (List lex_Token)) × (Int) → Option Bool := fun a => loopV (f_ref10_Same_0 N a.1) N a.2
def C_law10_LexPrints : Con tb := .s 4 [true, true] (.c (.el tb_ok 4) (.c (.el tb_ok 0) .n)) (fun N a => s_law10_LexPrints N a.1 a.2.1) (R := Bool) (.p .b) (fun _ => ⟨rfl, (by kernel_rfl)⟩)
def q_law10_LexPrints_0 : LQ tb (((List lex_Token) × (List lex_Token) × (List lex_Token) × (List lex_Token) × Int × Int × Int × (List UInt8)) × (Int)) := (LQ.m [] [2, 3, 5, 6, 7] (.c 2 (.ptr 0 0) (.c 3 (.ptr 1 0) (.c 5 (.r 1) (.c 6 (.r 1) (.c 7 (.i .i64) .n))))) (.c (.c (.r 1) (.c (.r 1) .n)) (.c (.c (.i .u8) (.c (.i .i64) (.c (.i .u64) (.c .s .n)))) .n)) .n).re (fun a => ((a.1.2.2.1, a.1.2.2.2.1, a.2.1.1.1, a.2.1.1.2.1, a.2.1.2.1.1, a.2.1.2.1.2.1, a.2.1.2.1.2.2.1, a.2.1.2.1.2.2.2.1), a.1.2.2.2.2.1)) (fun x => (((), (), x.1.1, x.1.2.1, x.2, ()), ((x.1.2.2.1, x.1.2.2.2.1, ()), (x.1.2.2.2.2.1, x.1.2.2.2.2.2.1, x.1.2.2.2.2.2.2.1, x.1.2.2.2.2.2.2.2, ()), ()), ())) (fun _ => rfl)
def f_law10_LexPrints_0 (N : Nat) (c : (List lex_Token) × (List lex_Token) × (List lex_Token) × (List lex_Token) × Int × Int × Int × (List UInt8)) (next : Int → Option Bool) (v : Int) : Option Bool := s_law10_LexPrints_1 N c.1 c.2.1 c.2.2.1 c.2.2.2.1 c.2.2.2.2.1 c.2.2.2.2.2.1 c.2.2.2.2.2.2.1 c.2.2.2.2.2.2.2 (fun u0 => next u0) v
abbrev r_law10_LexPrints_0 (N : Nat) : ((List lex_Token) × (List lex_Token) × (List lex_Token) × (List lex_Token) × Int × Int × Int × (List UInt8)) × (Int) → Option Bool := fun a => loopV (f_law10_LexPrints_0 N a.1) N a.2
end
end Go.Proofs.YtmjmbhkohcdlpaaDoor.W
namespace Go.Proofs.YtmjmbhkohcdlpaaDoor.W
open Go Go.RowKit Go.Extern.Stop Go.Stop Go.Extern Go.Proofs.Tryd
set_option maxHeartbeats 4000000
set_option maxRecDepth 1000000
theorem new_nil (p : Int) (w : World) : Calls Tryd.prog 31 #[.int .i64 0, .int .i64 p] w fun e w' => e = .returned .nilIface ∧ w' = w := by
  go_enter Tryd.func31, Tryd.ntmps31
  go_wp2
  go_ret
  exact ⟨rfl, rfl⟩
theorem new_some (n p : Int) (h : n ≠ 0) (w : World) : Calls Tryd.prog 31 #[.int .i64 n, .int .i64 p] w fun e w' => e = .returned (.iface 81 (.pointer (some ⟨w.heap.size, 0, none⟩))) ∧ w' = w.alloc (.cells #[.int .i64 n, .int .i64 p] 84) := by
  go_enter Tryd.func31, Tryd.ntmps31
  go_wp2
  go_ret
  exact ⟨rfl, rfl⟩
theorem c_fault_New (N : Nat) : C_fault_New.Ok prog N := by
  refine ⟨⟨Tryd.f31, Tryd.func31, by kernel_rfl, by kernel_rfl⟩, fun a r h => ?_⟩
  obtain ⟨n, p, ⟨⟩⟩ := a
  have h : s_fault_New N n p = some r := h
  intro M S w vs hh _ hsz hrep
  obtain ⟨v, u, rfl⟩ : ∃ v u, vs = #[v, u] := by
    match vs, hsz with
    | ⟨[v, u]⟩, _ => exact ⟨v, u, rfl⟩
  have h0 : v = .int .i64 n := VRep.v_eq (hrep 0 (Nat.zero_lt_succ 1))
  have h1 : u = .int .i64 p := VRep.v_eq (hrep 1 (Nat.lt_succ_self 1))
  subst h0; subst h1
  by_cases hn : n = 0
  · subst hn
    refine (new_nil p w).mono ?_
    rintro e w' ⟨rfl, rfl⟩
    have e1 : s_fault_New N 0 p = some (.inl ()) := rfl
    rw [e1] at h; obtain rfl := Option.some.inj h
    exact ⟨M, S, .data (.v _), hh, .refl hh⟩
  · refine (new_some n p hn w).mono ?_
    rintro e w' ⟨rfl, rfl⟩
    have e1 : s_fault_New N n p = some (.inr (n, p)) := by unfold s_fault_New; rw [show (n == 0) = false by simpa using hn]; rfl
    rw [e1] at h; obtain rfl := Option.some.inj h
    have hg := Grew.alloc w (.cells #[.int .i64 n, .int .i64 p] 84)
    obtain ⟨h3, h4⟩ := hh.addData hg (g := w.heap.size) (Nat.le_refl _) (by simp)
    refine ⟨M, _, .data (.ifc _ _ _ (.dptr w.heap.size 0 _ _ _ (0, 0) (.inr rfl) (push_new _ _) (Nat.le_refl 2) (fun j hj => ?_) fun j hj => ?_)), h3, h4⟩
    · match j, hj with
      | 0, _ => rfl
      | 1, _ => rfl
    · match j, hj with
      | 0, _ => exact .v _
      | 1, _ => exact .v _
end Go.Proofs.YtmjmbhkohcdlpaaDoor.W
namespace Go.Proofs.YtmjmbhkohcdlpaaDoor.W
open Go Go.RowKit Go.Extern.Stop Go.Stop Go.Extern Go.Proofs.Tryd
set_option maxHeartbeats 4000000
set_option maxRecDepth 1000000
theorem fa_nil (t : Value) (w : World) :
    Calls Tryd.prog 39 #[.nilIface, t] w fun e w' => e = .returned (.bool false) ∧ w' = w := by
  go_enter Tryd.func39, Tryd.ntmps39
  go_wp2
  go_ret
  exact ⟨rfl, rfl⟩

theorem find_nil (w : World) : Calls Tryd.prog 38 #[.nilIface] w fun e w' => e = .returned (.pointer none) ∧ Below w.heap.size w w' := by
  go_enter Tryd.func38, Tryd.ntmps38
  go_wp2_with (go_at_call 39; refine (fa_nil _ _).mono ?_; rintro e w' ⟨rfl, rfl⟩)
  go_ret
  exact ⟨rfl, (Below.refl _ w).alloc (Nat.le_refl _) _⟩
theorem c_fault_find_n (N : Nat) : C_fault_find_n.Ok prog N := by
  refine ⟨⟨Tryd.f38, Tryd.func38, by kernel_rfl, by kernel_rfl⟩, fun a r h => ?_⟩
  intro M S w vs hh _ hsz hrep
  obtain ⟨v, rfl⟩ : ∃ v, vs = #[v] := by
    match vs, hsz with
    | ⟨[v]⟩, _ => exact ⟨v, rfl⟩
  have h0 : v = .nilIface := VRep.v_eq (hrep 0 (Nat.zero_lt_one))
  subst h0
  refine (find_nil w).mono ?_
  rintro e w' ⟨rfl, hb⟩
  have hg : Grew w w' := ⟨hb.os, hb.tape, hb.output, hb.size, hb.block⟩
  exact ⟨M, S, .data (.v _), hh.grew hg, .grew hh hg⟩
end Go.Proofs.YtmjmbhkohcdlpaaDoor.W
namespace Go.Proofs.YtmjmbhkohcdlpaaDoor.W
open Go Go.Shelf Go.RowKit Go.Proofs.Tryd
set_option maxHeartbeats 1000000
set_option maxRecDepth 1000000
def bren : Go.Shelf.Ren := ⟨fun | 156 => 33 | 165 => 54 | 166 => 42 | 167 => 41 | 169 => 43 | 240 => 62 | 241 => 72 | 276 => 76 | 277 => 78 | n => n, fun | 0 => 0 | 3 => 3 | 4 => 4 | 5 => 5 | 9 => 9 | 20 => 20 | 31 => 77 | 37 => 89 | 70 => 92 | 72 => 94 | 75 => 33 | 76 => 96 | 80 => 98 | 127 => 120 | 164 => 106 | n => n, fun n => n⟩
theorem lays156 : Go.Proofs.Lays.n156 Tryd.prog bren := {
  mixed := by kernel_rfl
  f156 := Tryd.func33.trans (congrArg some (by kernel_rfl))
  f165 := Tryd.func54.trans (congrArg some (by kernel_rfl))
  f166 := Tryd.func42.trans (congrArg some (by kernel_rfl))
  f169 := Tryd.func43.trans (congrArg some (by kernel_rfl))
  f240 := Tryd.func62.trans (congrArg some (by kernel_rfl))
  f241 := Tryd.func72.trans (congrArg some (by kernel_rfl))
  f276 := Tryd.func76.trans (congrArg some (by kernel_rfl))
  f277 := Tryd.func78.trans (congrArg some (by kernel_rfl))
  t0 := Tryd.underlying0
  a0 := Tryd.isAgg0
  z0 := Tryd.sizeOf0
  v0 := Tryd.zeroValue0
  t3 := Tryd.underlying3
  a3 := Tryd.isAgg3
  z3 := Tryd.sizeOf3
  v3 := Tryd.zeroValue3
  t4 := Tryd.underlying4
  a4 := Tryd.isAgg4
  z4 := Tryd.sizeOf4
  v4 := Tryd.zeroValue4
  t9 := Tryd.underlying9
  a9 := Tryd.isAgg9
  z9 := Tryd.sizeOf9
  v9 := Tryd.zeroValue9
  t20 := Tryd.underlying20
  a20 := Tryd.isAgg20
  z20 := Tryd.sizeOf20
  v20 := Tryd.zeroValue20
  t31 := Tryd.underlying77
  a31 := Tryd.isAgg77
  z31 := Tryd.sizeOf77
  v31 := Tryd.zeroValue77
  t37 := Tryd.underlying89
  a37 := Tryd.isAgg89
  z37 := Tryd.sizeOf89
  v37 := Tryd.zeroValue89
  t70 := Tryd.underlying92
  a70 := Tryd.isAgg92
  z70 := Tryd.sizeOf92
  v70 := Tryd.zeroValue92
  t72 := Tryd.underlying94
  a72 := Tryd.isAgg94
  z72 := Tryd.sizeOf94
  v72 := Tryd.zeroValue94
  t75 := Tryd.underlying33
  a75 := Tryd.isAgg33
  z75 := Tryd.sizeOf33
  v75 := Tryd.zeroValue33
  t76 := Tryd.underlying96
  a76 := Tryd.isAgg96
  z76 := Tryd.sizeOf96
  v76 := Tryd.zeroValue96
  t127 := Tryd.underlying120
  a127 := Tryd.isAgg120
  z127 := Tryd.sizeOf120
  v127 := Tryd.zeroValue120
  t164 := Tryd.underlying106
  a164 := Tryd.isAgg106
  z164 := Tryd.sizeOf106
  v164 := Tryd.zeroValue106 }
theorem lays166 : Go.Proofs.Lays.n166 Tryd.prog bren := {
  mixed := by kernel_rfl
  f166 := Tryd.func42.trans (congrArg some (by kernel_rfl))
  f240 := Tryd.func62.trans (congrArg some (by kernel_rfl))
  f276 := Tryd.func76.trans (congrArg some (by kernel_rfl))
  t0 := Tryd.underlying0
  a0 := Tryd.isAgg0
  z0 := Tryd.sizeOf0
  v0 := Tryd.zeroValue0
  t3 := Tryd.underlying3
  a3 := Tryd.isAgg3
  z3 := Tryd.sizeOf3
  v3 := Tryd.zeroValue3
  t4 := Tryd.underlying4
  a4 := Tryd.isAgg4
  z4 := Tryd.sizeOf4
  v4 := Tryd.zeroValue4
  t9 := Tryd.underlying9
  a9 := Tryd.isAgg9
  z9 := Tryd.sizeOf9
  v9 := Tryd.zeroValue9
  t20 := Tryd.underlying20
  a20 := Tryd.isAgg20
  z20 := Tryd.sizeOf20
  v20 := Tryd.zeroValue20
  t37 := Tryd.underlying89
  a37 := Tryd.isAgg89
  z37 := Tryd.sizeOf89
  v37 := Tryd.zeroValue89
  t70 := Tryd.underlying92
  a70 := Tryd.isAgg92
  z70 := Tryd.sizeOf92
  v70 := Tryd.zeroValue92
  t72 := Tryd.underlying94
  a72 := Tryd.isAgg94
  z72 := Tryd.sizeOf94
  v72 := Tryd.zeroValue94
  t75 := Tryd.underlying33
  a75 := Tryd.isAgg33
  z75 := Tryd.sizeOf33
  v75 := Tryd.zeroValue33
  t164 := Tryd.underlying106
  a164 := Tryd.isAgg106
  z164 := Tryd.sizeOf106
  v164 := Tryd.zeroValue106 }
theorem lays167 : Go.Proofs.Lays.n167 Tryd.prog bren := {
  mixed := by kernel_rfl
  f167 := Tryd.func41.trans (congrArg some (by kernel_rfl))
  f240 := Tryd.func62.trans (congrArg some (by kernel_rfl))
  f276 := Tryd.func76.trans (congrArg some (by kernel_rfl))
  t0 := Tryd.underlying0
  a0 := Tryd.isAgg0
  z0 := Tryd.sizeOf0
  v0 := Tryd.zeroValue0
  t4 := Tryd.underlying4
  a4 := Tryd.isAgg4
  z4 := Tryd.sizeOf4
  v4 := Tryd.zeroValue4
  t5 := Tryd.underlying5
  a5 := Tryd.isAgg5
  z5 := Tryd.sizeOf5
  v5 := Tryd.zeroValue5
  t9 := Tryd.underlying9
  a9 := Tryd.isAgg9
  z9 := Tryd.sizeOf9
  v9 := Tryd.zeroValue9
  t20 := Tryd.underlying20
  a20 := Tryd.isAgg20
  z20 := Tryd.sizeOf20
  v20 := Tryd.zeroValue20
  t37 := Tryd.underlying89
  a37 := Tryd.isAgg89
  z37 := Tryd.sizeOf89
  v37 := Tryd.zeroValue89
  t70 := Tryd.underlying92
  a70 := Tryd.isAgg92
  z70 := Tryd.sizeOf92
  v70 := Tryd.zeroValue92
  t72 := Tryd.underlying94
  a72 := Tryd.isAgg94
  z72 := Tryd.sizeOf94
  v72 := Tryd.zeroValue94
  t75 := Tryd.underlying33
  a75 := Tryd.isAgg33
  z75 := Tryd.sizeOf33
  v75 := Tryd.zeroValue33
  t164 := Tryd.underlying106
  a164 := Tryd.isAgg106
  z164 := Tryd.sizeOf106
  v164 := Tryd.zeroValue106 }
theorem lays169 : Go.Proofs.Lays.n169 Tryd.prog bren := {
  mixed := by kernel_rfl
  f169 := Tryd.func43.trans (congrArg some (by kernel_rfl))
  t0 := Tryd.underlying0
  a0 := Tryd.isAgg0
  z0 := Tryd.sizeOf0
  v0 := Tryd.zeroValue0
  t3 := Tryd.underlying3
  a3 := Tryd.isAgg3
  z3 := Tryd.sizeOf3
  v3 := Tryd.zeroValue3
  t9 := Tryd.underlying9
  a9 := Tryd.isAgg9
  z9 := Tryd.sizeOf9
  v9 := Tryd.zeroValue9
  t37 := Tryd.underlying89
  a37 := Tryd.isAgg89
  z37 := Tryd.sizeOf89
  v37 := Tryd.zeroValue89
  t70 := Tryd.underlying92
  a70 := Tryd.isAgg92
  z70 := Tryd.sizeOf92
  v70 := Tryd.zeroValue92
  t72 := Tryd.underlying94
  a72 := Tryd.isAgg94
  z72 := Tryd.sizeOf94
  v72 := Tryd.zeroValue94
  t127 := Tryd.underlying120
  a127 := Tryd.isAgg120
  z127 := Tryd.sizeOf120
  v127 := Tryd.zeroValue120 }
theorem bextra : Builder.Extra Tryd.prog bren := {
  sizeBuilder := by kernel_rfl
  liesBuilder := by kernel_rfl
  t5 := Tryd.underlying5
  a5 := Tryd.isAgg5
  z5 := Tryd.sizeOf5
  v5 := Tryd.zeroValue5
  infoByte := by kernel_rfl
  cellsByte := by kernel_rfl
  sizeByte := by kernel_rfl
  neB5 := by decide }
theorem set_rep2 {α : Type} (x z : α) (r : List α) : ∀ j, (List.replicate (j + 1) z ++ r).set j x = List.replicate j z ++ x :: r
  | 0 => rfl
  | j + 1 => by
    have := set_rep2 x z r j
    simp only [List.replicate_succ, List.cons_append, List.set_cons_succ] at this ⊢
    rw [this]

theorem w_add8 (q : Nat) : 48 + UInt8.ofNat (q % 10) = UInt8.ofNat (48 + q % 10) := by
  apply UInt8.toNat_inj.1
  simp [UInt8.toNat_add]

theorem whole_walk (n : Int) (h1 : -4611686018427387904 ≤ n) (h2 : n ≤ 4611686018427387904) (w : World) :
    Calls Tryd.prog 26 #[.int .i64 n] w fun e w' => e = .returned (.string (bs (whS n))) ∧ Below w.heap.size w w' := by
  have hm : max n (-n) = (n.natAbs : Int) := by omega
  have hm2 : n.natAbs < 10 ^ 19 := by omega
  obtain ⟨m, hmm⟩ : ∃ m, n.natAbs = m := ⟨_, rfl⟩
  rw [hmm] at hm hm2
  go_enter Tryd.func26, Tryd.ntmps26
  go_wp2
  have hin : n < 0 ↔ n < 0 := Iff.rfl
  go_loopw [4, 5] (fun i x wr => ∃ (j k q : Nat) (tail : List UInt8), j + k = 21 ∧ i = .int .i64 j ∧ x = .int .u64 (q : Int) ∧ wr.heap[w.heap.size]? = some (.cells (Lib.byteCells (List.replicate j 0 ++ tail)).toArray 88 (0, 0)) ∧ Below w.heap.size w wr ∧ tail.length = k ∧ dgF 20 m = dgF (20 - k) q ++ tail ∧ (k = 0 ∨ q ≠ 0) ∧ q < 10 ^ (19 - k) ∧ k ≤ 19) (fun i _ _ => (intOf i).toNat)
  case atStart =>
    refine ⟨21, 0, m, [], rfl, rfl, rfl, ?_, (Below.refl _ w).alloc (Nat.le_refl _) _, rfl, by simp, .inl rfl, hm2, by omega⟩
    rw [heap_alloc_new]
    rfl
  case round =>
    obtain ⟨j, k, q, tail, hjk, rfl, rfl, hh, hb, htl, hdg, hkq, hq, hk19⟩ := hrel
    have hsz := hb.size
    have hk18 : k ≤ 18 := by
      rcases hkq with h | h
      · omega
      · by_cases hk : k = 19
        · subst hk; simp at hq; omega
        · omega
    obtain ⟨p, rfl⟩ : ∃ p, j = p + 2 := ⟨j - 2, by omega⟩
    have hlen : (Lib.byteCells (List.replicate (p + 2) 0 ++ tail)).length = 21 := by rw [Lib.byteCells_length]; simp; omega
    have g1 : (0 : Int) ≤ ((p + 1 : Nat) : Int) := by omega
    have g2 : ((p + 1 : Nat) : Int) < 21 := by omega
    have g3 : p + 1 < 21 := by omega
    have g4 : (p : Int) + 1 < 21 := by omega
    have g5 : (p : Int) < 21 := by omega
    have g6 : p < 21 := by omega
    have g7 : p + 1 ≤ 21 := by omega
    have g8 : p ≤ 21 := by omega
    have c1 : ∃ v, wr.cell? ⟨w.heap.size, p + 1, none⟩ = some v := by
      rw [Lib.cell_of_heap hh]; exact ⟨(Lib.byteCells (List.replicate (p + 2) 0 ++ tail))[p + 1]'(by omega), by simp only [List.getElem?_toArray]; exact List.getElem?_eq_getElem _⟩
    obtain ⟨v0, c1⟩ := c1
    have c2 : wr.frozen? ⟨w.heap.size, p + 1, none⟩ = false := Lib.frozen_of_heap hh (p + 1)
    have hq64 : q < 18446744073709551616 := Nat.lt_of_lt_of_le hq (Nat.le_trans (Nat.pow_le_pow_right (by decide) (by omega : 19 - k ≤ 19)) (by decide))
    have hbl := fun v => Joins.block_setCell (i := p + 1) hh v
    have c3 : ∀ v, (wr.setCell ⟨w.heap.size, p + 1, none⟩ v).cell? ⟨w.heap.size, p, none⟩ = some (.int .u8 0) := fun v => by
      rw [Lib.cell_of_heap (hbl v), List.setIfInBounds_toArray, List.getElem?_toArray, List.getElem?_set_ne (by omega)]
      simp [Lib.byteCells, List.getElem?_append]
    have c4 : ∀ v, (wr.setCell ⟨w.heap.size, p + 1, none⟩ v).frozen? ⟨w.heap.size, p, none⟩ = false := fun v => Lib.frozen_of_heap (hbl v) p
    have hbl2 := fun v v' => Joins.block_setCell (i := p) (hbl v) v'
    have hd10 : q % 10 < 10 := Nat.mod_lt _ (by decide)
    have s1 : (0 : Int) ≤ (p : Int) + 2 - 1 := by omega
    have s2 : (p : Int) + 2 - 1 ≤ 21 := by omega
    have s3 : (0 : Int) ≤ (p : Int) + 2 - 1 - 1 := by omega
    have s4 : (p : Int) + 2 - 1 - 1 ≤ 21 := by omega
    have s5 : ((p : Int) + 2 - 1).toNat = p + 1 := by omega
    have s6 : ((p : Int) + 2 - 1 - 1).toNat = p := by omega
    have s7 : ¬ (21 = p + 1) := by omega
    have s8 : ¬ (21 = p) := by omega
    have r1 : ∀ W, (Instr.sliceAt 88 (.pointer (some ⟨w.heap.size, 0, none⟩)) (some (.int .i64 ((p : Int) + 2 - 1))) none none).run Tryd.prog W = .ok (.slice (some ⟨w.heap.size, p + 1, none⟩) (20 - p) (20 - p)) W := fun W => by
      rw [run_sliceAt_array_l (P := Tryd.prog) W 88 _ (by kernel_rfl) .i64 _ s1 (by exact s2), s5, show Tryd.prog.elem 88 = 5 from by kernel_rfl, Tryd.sizeOf5, show Tryd.prog.arrayLen 88 = 21 from by kernel_rfl]
      simp only [Result.andThen, slicedAt, if_neg s7, Addr.add, Nat.mul_one, Nat.zero_add, show 21 - (p + 1) = 20 - p from by omega, Nat.succ_ne_zero, if_false]
    have r2 : ∀ W, (Instr.sliceAt 88 (.pointer (some ⟨w.heap.size, 0, none⟩)) (some (.int .i64 ((p : Int) + 2 - 1 - 1))) none none).run Tryd.prog W = .ok (.slice (some ⟨w.heap.size, p, none⟩) (21 - p) (21 - p)) W := fun W => by
      rw [run_sliceAt_array_l (P := Tryd.prog) W 88 _ (by kernel_rfl) .i64 _ s3 (by exact s4), s6, show Tryd.prog.elem 88 = 5 from by kernel_rfl, Tryd.sizeOf5, show Tryd.prog.arrayLen 88 = 21 from by kernel_rfl]
      simp only [Result.andThen, slicedAt, if_neg s8, Addr.add, Nat.mul_one, Nat.zero_add]
      by_cases hp0 : p = 0
      · subst hp0; rfl
      · rw [if_neg hp0]
    obtain ⟨l1, hl1⟩ : ∃ l, l = UInt8.ofNat (48 + q % 10) :: tail := ⟨_, rfl⟩
    have hll : l1.length = 20 - p := by rw [hl1]; simp; omega
    have hsub : (48 + (q : Int) % 10) = ((UInt8.ofNat (48 + q % 10)).toNat : Int) := by rw [UInt8.toNat_ofNat', Nat.mod_eq_of_lt (by omega)]; omega
    have hw1 : (wr.setCell ⟨w.heap.size, p + 1, none⟩ (.int .u8 (48 + (q : Int) % 10))).heap[w.heap.size]? = some (.cells (Lib.byteCells (List.replicate (p + 1) 0 ++ l1)).toArray 88 (0, 0)) := by
      rw [hbl, hl1, ← set_rep2 (UInt8.ofNat (48 + q % 10)) 0 tail (p + 1), List.setIfInBounds_toArray, hsub]
      simp only [Lib.byteCells, List.map_set]
    have hw2 : ((wr.setCell ⟨w.heap.size, p + 1, none⟩ (.int .u8 (48 + (q : Int) % 10))).setCell ⟨w.heap.size, p, none⟩ (.int .u8 45)).heap[w.heap.size]? = some (.cells (Lib.byteCells (List.replicate p 0 ++ 45 :: l1)).toArray 88 (0, 0)) := by
      rw [Joins.block_setCell hw1, ← set_rep2 45 0 l1 p, List.setIfInBounds_toArray]
      simp only [Lib.byteCells, List.map_set]
      rfl
    have hcv := fun (W : World) (o : Nat) (l : List UInt8) (cap : Nat) (hW : W.heap[w.heap.size]? = some (.cells (Lib.byteCells (List.replicate o 0 ++ l)).toArray 88 (0, 0))) => run_convert_bytes_back (P := Tryd.prog) W 89 9 5 ⟨w.heap.size, o, none⟩ cap l (by kernel_rfl) (by kernel_rfl) (by kernel_rfl) (fun i hi => by
        have ea : (⟨w.heap.size, o, none⟩ : Addr).add i = ⟨w.heap.size, o + i, none⟩ := by unfold Addr.add; split <;> simp [*]
        rw [ea, Lib.cell_of_heap hW, List.getElem?_toArray]
        simp [Lib.byteCells, List.getElem?_append_right, List.getElem?_eq_getElem hi])
    have cv1 := hcv _ (p + 1) l1 (20 - p) hw1
    have cv2 := hcv _ p (45 :: l1) (21 - p) hw2
    rw [hll] at cv1
    rw [show (45 :: l1).length = 21 - p by simp; omega] at cv2
    have hd2 : dgF 20 m = (if q / 10 = 0 then [] else dgF (19 - k) (q / 10)) ++ l1 := by
      rw [hdg, show 20 - k = (19 - k) + 1 by omega, dgF, hl1]; simp
    have hhi : (wr.setCell ⟨w.heap.size, p + 1, none⟩ (.int .u8 (48 + (q : Int) % 10))).heap[w.heap.size]? = some (.cells (Lib.byteCells (List.replicate (p + 1) 0 ++ l1)).toArray 88 (0, 0)) ∧ l1.length = k + 1 ∧ p + 1 + (k + 1) = 21 ∧ q < 10 ^ (19 - k) ∧ l1 = UInt8.ofNat (48 + q % 10) :: tail := ⟨hw1, by omega, by omega, hq, hl1⟩
    clear hjk hkq hq hk19 hdg hcv hw1 hw2 hl1 hsub
    go_wp2
    · go_ret
      rename_i hq0 hn
      have hq0' : q / 10 = 0 := by have := beq_iff_eq.1 hq0; omega
      rw [if_pos hq0', List.nil_append, hhi.2.2.2.2, ← w_add8] at hd2
      have e : whS n = 45 :: (48 + UInt8.ofNat (q % 10)) :: tail := by rw [whS, if_pos hn, hmm, hd2]; rfl
      rw [e]
      exact ⟨rfl, (hb.setCell (p := ⟨w.heap.size, p + 1, none⟩) (Nat.le_refl _) _).setCell (p := ⟨w.heap.size, p, none⟩) (Nat.le_refl _) _⟩
    · go_ret
      rename_i hq0 hn
      have hq0' : q / 10 = 0 := by have := beq_iff_eq.1 hq0; omega
      rw [if_pos hq0', List.nil_append, hhi.2.2.2.2, ← w_add8] at hd2
      have e : whS n = (48 + UInt8.ofNat (q % 10)) :: tail := by rw [whS, if_neg (by omega), hmm, hd2]; rfl
      rw [e]
      exact ⟨rfl, hb.setCell (p := ⟨w.heap.size, p + 1, none⟩) (Nat.le_refl _) _⟩
    · obtain ⟨hw1, hl, hjk, hq, hl1⟩ := hhi
      rename_i hq0
      have hq0' : ¬ (q / 10 = 0) := fun e => by have := beq_eq_false_iff_ne.1 hq0; omega
      refine ⟨⟨p + 1, k + 1, q / 10, l1, hjk, ?_, ?_, hw1, hb.setCell (p := ⟨w.heap.size, p + 1, none⟩) (Nat.le_refl _) _, hl, ?_, .inr hq0', ?_, by omega⟩, by simp only [intOf]; omega⟩
      · rw [show (p : Int) + 2 - 1 = ((p + 1 : Nat) : Int) by omega]
      · rw [show (q : Int) / 10 = ((q / 10 : Nat) : Int) by omega]
      · rw [hd2, if_neg hq0', show 20 - (k + 1) = 19 - k by omega]
      · refine Nat.div_lt_of_lt_mul ?_
        have e : 19 - k = 19 - (k + 1) + 1 := by omega
        rw [e, Nat.pow_succ, Nat.mul_comm] at hq
        exact hq
theorem c_lex_whole (N : Nat) : C_lex_whole.Ok prog N := by
  refine ⟨⟨Tryd.f26, Tryd.func26, by kernel_rfl, by kernel_rfl⟩, fun a r h => ?_⟩
  have h : s_lex_whole N a.1 = some r := h
  unfold s_lex_whole at h
  obtain ⟨h1, h2⟩ := gd_some h
  obtain rfl := Option.some.inj h2
  intro M S w vs hh _ hsz hrep
  obtain ⟨v, rfl⟩ : ∃ v, vs = #[v] := by
    match vs, hsz with
    | ⟨[v]⟩, _ => exact ⟨v, rfl⟩
  have h0 : v = .int .i64 a.1 := VRep.v_eq (hrep 0 (Nat.zero_lt_one))
  subst h0
  obtain ⟨k1, k2⟩ := (Bool.and_eq_true _ _).mp h1
  refine (whole_walk a.1 (leB_iff.1 k1) (leB_iff.1 k2) w).mono ?_
  rintro e w' ⟨rfl, hb⟩
  have hg : Grew w w' := ⟨hb.os, hb.tape, hb.output, hb.size, hb.block⟩
  exact ⟨M, S, .data (.v _), hh.grew hg, .grew hh hg⟩
end Go.Proofs.YtmjmbhkohcdlpaaDoor.W
namespace Go.Proofs.YtmjmbhkohcdlpaaDoor.W
open Go Go.Shelf Go.RowKit Go.Proofs.Tryd
set_option maxHeartbeats 1000000
set_option maxRecDepth 1000000

theorem hxS_len (u : Nat) : ∀ k, (hxS k u).length = k
  | 0 => rfl
  | k + 1 => by simp [hxS, hxS_len u k]
theorem and15 (q : Nat) (h : q < 18446744073709551616) : bits .and .u64 (q : Int) 15 = ((q % 16 : Nat) : Int) := by
  have := bits_and_u64_nat q 15 h (by decide)
  rw [show ((15 : Nat) : Int) = 15 from rfl] at this
  rw [this, show q &&& 15 = q % 16 from Nat.and_two_pow_sub_one_eq_mod q 4]
theorem lb_hex {k : Nat} (h : k < 16) : ({ data := #[48, 49, 50, 51, 52, 53, 54, 55, 56, 57, 97, 98, 99, 100, 101, 102] } : ByteArray)[k]'h = hexB k := by
  have : ∀ k : Fin 16, ({ data := #[48, 49, 50, 51, 52, 53, 54, 55, 56, 57, 97, 98, 99, 100, 101, 102] } : ByteArray)[k.1]'k.2 = hexB k.1 := by decide
  exact this ⟨k, h⟩
theorem lb_set {α : Type} (a x z : α) (r : List α) : ∀ j, (a :: (List.replicate (j + 1) z ++ r)).set (j + 1) x = a :: (List.replicate j z ++ x :: r)
  | 0 => rfl
  | j + 1 => by
    have := lb_set z x z r j
    simp only [List.replicate_succ, List.cons_append, List.set_cons_succ] at this ⊢
    rw [this]
theorem bits_walk (u : Nat) (hu : u < 18446744073709551616) (w : World) :
    Calls Tryd.prog 27 #[.int .u64 (u : Int)] w fun e w' => e = .returned (.string (bs (bitS u))) ∧ Below w.heap.size w w' := by
  go_enter Tryd.func27, Tryd.ntmps27
  go_wp2
  go_loopw [0, 4] (fun x i wr => ∃ j k : Nat, j + k = 16 ∧ x = .int .u64 ((u / 16 ^ k : Nat) : Int) ∧ i = .int .i64 j ∧ wr.heap[w.heap.size]? = some (.cells (Lib.byteCells (35 :: (List.replicate j 0 ++ hxS k u))).toArray 90 (0, 0)) ∧ Below w.heap.size w wr) (fun _ i _ => (intOf i).toNat)
  case atStart =>
    refine ⟨16, 0, rfl, by simp, rfl, ?_, (Below.refl _ w).alloc (Nat.le_refl _) _⟩
    rw [heap_alloc_new]
    rfl
  case round =>
    obtain ⟨j, k, hjk, rfl, rfl, hh, hb⟩ := hrel
    have hsz := hb.size
    have hlen : (Lib.byteCells (35 :: (List.replicate j 0 ++ hxS k u))).length = 17 := by rw [Lib.byteCells_length]; simp [hxS_len]; omega
    have hq' : u / 16 ^ k < 18446744073709551616 := Nat.lt_of_le_of_lt (Nat.div_le_self _ _) hu
    by_cases hj : j = 0
    · subst hj
      obtain rfl : k = 16 := by omega
      have hcv := fun (P : Program) (src dst e : TypeId) hs he hd => run_convert_bytes_back (P := P) wr src dst e ⟨w.heap.size, 0, none⟩ 17 (bitS u) hs he hd (fun i hi => by
        have ea : (⟨w.heap.size, 0, none⟩ : Addr).add i = ⟨w.heap.size, i, none⟩ := by simp [Addr.add]; exact fun h => h.symm
        rw [ea, Lib.cell_of_heap hh, List.getElem?_toArray]
        show (Lib.byteCells (bitS u))[i]? = _
        simp [Lib.byteCells, List.getElem?_eq_getElem hi])
      generalize u / 16 ^ 16 = q
      have hcv' := hcv Tryd.prog 89 9 5 (by kernel_rfl) (by kernel_rfl) (by kernel_rfl)
      rw [show (bitS u).length = 17 by simp [bitS, hxS_len]] at hcv'
      clear hcv
      go_wp2
      go_ret
      exact ⟨rfl, hb⟩
    · obtain ⟨j, rfl⟩ : ∃ j', j = j' + 1 := ⟨j - 1, by omega⟩
      have h1 : (0 : Int) < ((j + 1 : Nat) : Int) := by omega
      have h2 : ((j + 1 : Nat) : Int) < 17 := by omega
      have h3 : j + 1 < 17 := by omega
      have c1 : ∃ v, wr.cell? ⟨w.heap.size, j + 1, none⟩ = some v := by
        rw [Lib.cell_of_heap hh]; exact ⟨(Lib.byteCells (35 :: (List.replicate (j + 1) 0 ++ hxS k u)))[j + 1]'(by omega), by simp only [List.getElem?_toArray]; exact List.getElem?_eq_getElem _⟩
      obtain ⟨v0, c1⟩ := c1
      have c2 : wr.frozen? ⟨w.heap.size, j + 1, none⟩ = false := Lib.frozen_of_heap hh (j + 1)
      have hbl := fun v => Joins.block_setCell (i := j + 1) hh v
      have hdd : u / 16 ^ k / 16 = u / 16 ^ (k + 1) := by rw [Nat.div_div_eq_div_mul, Nat.pow_succ]
      have hhx : hexB (u / 16 ^ k % 16) :: hxS k u = hxS (k + 1) u := rfl
      generalize u / 16 ^ k = q at *
      have hb15 := and15 q hq'
      have hk1 : q % 16 < 16 := by omega
      go_wp2
      refine ⟨⟨j, k + 1, by omega, by rw [← hdd]; simp, rfl, ?_, hb.setCell (p := ⟨w.heap.size, j + 1, none⟩) (Nat.le_refl _) _⟩, by simp only [intOf]; omega⟩
      rw [hbl, lb_hex hk1, ← hhx, ← lb_set 35 (hexB (q % 16)) 0 (hxS k u) j, List.setIfInBounds_toArray]
      simp only [Lib.byteCells, List.map_set]
theorem c_lex_bits (N : Nat) : C_lex_bits.Ok prog N := by
  refine ⟨⟨Tryd.f27, Tryd.func27, by kernel_rfl, by kernel_rfl⟩, fun a r h => ?_⟩
  have h : s_lex_bits N a.1 = some r := h
  unfold s_lex_bits at h
  obtain ⟨h1, h2⟩ := gd_some h
  obtain rfl := Option.some.inj h2
  intro M S w vs hh _ hsz hrep
  obtain ⟨v, rfl⟩ : ∃ v, vs = #[v] := by
    match vs, hsz with
    | ⟨[v]⟩, _ => exact ⟨v, rfl⟩
  have h0 : v = .int .u64 a.1 := VRep.v_eq (hrep 0 (Nat.zero_lt_one))
  subst h0
  obtain ⟨k1, k2⟩ := (Bool.and_eq_true _ _).mp h1
  obtain ⟨u, hu⟩ : ∃ u : Nat, a.1 = (u : Int) := ⟨a.1.toNat, by have := leB_iff.1 k1; omega⟩
  have k3 : a.1 < 18446744073709551616 := ltB_iff.1 k2
  rw [hu] at k3 ⊢
  refine (bits_walk u (by omega) w).mono ?_
  rintro e w' ⟨rfl, hb⟩
  have hg : Grew w w' := ⟨hb.os, hb.tape, hb.output, hb.size, hb.block⟩
  exact ⟨M, S, .data (.v _), hh.grew hg, .grew hh hg⟩
end Go.Proofs.YtmjmbhkohcdlpaaDoor.W
namespace Go.Proofs.YtmjmbhkohcdlpaaDoor.W
open Go Go.Shelf Go.RowKit Go.Proofs.Tryd
set_option maxHeartbeats 1000000
set_option maxRecDepth 1000000

theorem lx_size (x : List UInt8) : (bs x).size = x.length := by simp [bs, ByteArray.size]
theorem lx_list (x : List UInt8) : (bs x).data.toList = x := by simp [bs]
theorem lx_cells (x : List UInt8) : Lib.strCells (bs x) = Lib.byteCells x := by rw [Lib.strCells_eq, lx_list]
theorem lx_one (x : List UInt8) (c : UInt8) : Lib.byteCells x ++ [Value.int .u8 (c.toNat : Int)] = Lib.byteCells (x ++ [c]) := by rw [Lib.byteCells_append]; rfl
theorem lx_le1 (c : UInt8) : (txC c).length ≤ 3 := by unfold txC; split
                                                      · decide
                                                      · split <;> simp
theorem lx_le (l : List UInt8) : (l.flatMap txC).length ≤ 3 * l.length := by
  induction l with
  | nil => exact Nat.zero_le _
  | cons c l ih => have := lx_le1 c; simp only [List.flatMap_cons, List.length_append, List.length_cons]; omega

theorem txC_eq (c : UInt8) : txC c = if c.toNat = 39 then [39, 39] else if c.toNat < 32 ∨ 126 < c.toNat ∨ c.toNat = 92 then [92, hexB (c.toNat / 16), hexB (c.toNat % 16)] else [c] := by
  unfold txC
  simp only [UInt8.lt_iff_toNat_lt, ← UInt8.toNat_inj]
  rfl
theorem lx_hex {k : Nat} (h : k < 16) : ({ data := #[48, 49, 50, 51, 52, 53, 54, 55, 56, 57, 97, 98, 99, 100, 101, 102] } : ByteArray)[k]'h = hexB k := by
  have : ∀ k : Fin 16, ({ data := #[48, 49, 50, 51, 52, 53, 54, 55, 56, 57, 97, 98, 99, 100, 101, 102] } : ByteArray)[k.1]'k.2 = hexB k.1 := by decide
  exact this ⟨k, h⟩
theorem lx_write {w wr : World} {x : List UInt8} (v : Int) (hI : Lib.IsBuilderF 94 5 w.heap.size w.heap.size (Lib.byteCells x) wr) (hb : Below w.heap.size w wr) (hq : x.length ≤ 100000000000) :
    Calls Tryd.prog 41 #[.pointer (some ⟨w.heap.size, 0, none⟩), .int .u8 v] wr fun e W => e = .returned .nilIface ∧ (∀ c : UInt8, v = (c.toNat : Int) → Lib.IsBuilderF 94 5 w.heap.size w.heap.size (Lib.byteCells (x ++ [c])) W) ∧ Below w.heap.size w W := by
  refine (Any.Builder_WriteByte_k lays167 bextra w.heap.size w.heap.size _ v _ hI (by rw [Lib.byteCells_length]; omega) hb.size).mono ?_
  rintro e W ⟨rfl, h, b, _⟩
  refine ⟨rfl, fun c hc => Or.inr ?_, hb.trans b⟩
  subst hc
  rw [← lx_one]; exact h

theorem lx_walk (l : List UInt8) (w : World) (hlen : l.length ≤ 10000000000) :
    Calls Tryd.prog 28 #[.string (bs l)] w fun e w' => e = .returned (.string (bs (txS l))) ∧ Below w.heap.size w w' := by
  have hat : ∀ pre c rest, l = pre ++ c :: rest → ∃ h : pre.length < (bs l).size, (bs l)[pre.length]'h = c := fun pre c rest h => by
    subst h
    refine ⟨by rw [lx_size]; simp, ?_⟩
    exact (by simp : (pre ++ c :: rest).toArray[pre.length]'(by simp) = c)
  have hn' : l.length = (bs l).size := by rw [lx_size]
  obtain ⟨T, hT⟩ : ∃ T, T = txS l := ⟨_, rfl⟩
  rw [← hT]
  generalize bs l = B at *
  obtain ⟨n, hn⟩ : ∃ n, B.size = n := ⟨_, rfl⟩
  rw [hn] at hn'
  go_enter Tryd.func28, Tryd.ntmps28
  go_wp2_with (go_at_call 41; refine (lx_write (x := []) 39 (Lib.IsBuilderF.of (Lib.fresh_isBuilder 94 5 w)) ((Below.refl _ w).alloc (Nat.le_refl _) _) (by simp)).mono ?_)
  rintro e W0 ⟨rfl, h0, b0⟩
  have h0 := h0 39 rfl
  go_wp2
  go_loopw [9] (fun i wr => ∃ (pre rest : List UInt8), l = pre ++ rest ∧ i = .int .i64 pre.length ∧ Lib.IsBuilderF 94 5 w.heap.size w.heap.size (Lib.byteCells ([39] ++ pre.flatMap txC)) wr ∧ Below w.heap.size w wr) (fun i _ => n - (intOf i).toNat)
  case atStart => exact ⟨[], l, rfl, rfl, h0, b0⟩
  case round =>
    obtain ⟨pre, rest, hl, rfl, hI, hb⟩ := hrel
    have hsz := hb.size
    have htx := lx_le pre
    cases rest with
    | nil =>
      have hc : ¬ ((pre.length : Int) < (n : Int)) := by rw [← hn', hl]; simp
      rw [List.append_nil] at hl
      have hq : ([39] ++ pre.flatMap txC).length ≤ 100000000000 := by subst hl; simp only [List.length_append, List.length_cons, List.length_nil]; omega
      clear hlen hat htx
      subst hl
      go_wp2_with (first | (go_at_call 41; refine (lx_write 39 hI hb hq).mono ?_; rintro e W1 ⟨rfl, h1, b1⟩; have h1 := h1 39 rfl) | (go_at_call 43; refine (Any.Builder_String_any_k lays169 bextra w.heap.size w.heap.size _ _ h1 (by have := b1.size; omega)).mono ?_; rintro e W2 ⟨rfl, _, b2, _⟩))
      go_ret
      exact ⟨by rw [hT]; rfl, b1.trans b2⟩
    | cons c rest =>
      have hlp : pre.length < l.length := by rw [hl]; simp
      have hc : ((pre.length : Int) < (n : Int)) := by omega
      have hlt : pre.length < n := by omega
      obtain ⟨hx1, hx⟩ := hat pre c rest hl
      have hq : ([39] ++ pre.flatMap txC).length ≤ 100000000000 - 10 := by simp only [List.length_append, List.length_cons, List.length_nil]; omega
      clear hat
      have hq1 : ([39] ++ pre.flatMap txC).length ≤ 100000000000 := by omega
      have hq2 : (([39] ++ pre.flatMap txC) ++ [92]).length ≤ 100000000000 := by rw [List.length_append]; simp only [List.length_cons, List.length_nil]; omega
      have hq3 : ∀ d : UInt8, ((([39] ++ pre.flatMap txC) ++ [92]) ++ [d]).length ≤ 100000000000 := fun d => by rw [List.length_append, List.length_append]; simp only [List.length_cons, List.length_nil]; omega
      have h256 : c.toNat < 256 := c.toNat_lt
      have hk1 : c.toNat / 16 < 16 := by omega
      have hk2 : c.toNat % 16 < 16 := by omega
      go_wp2_with (first
        | (go_at_call 41; refine (lx_write _ hI hb hq1).mono ?_; rintro e W1 ⟨rfl, h1, b1⟩; first | have h1 := h1 92 rfl | have h1 := h1 c rfl)
        | (go_at_call 41; refine (lx_write _ h1 b1 hq2).mono ?_; rintro e W2 ⟨rfl, h2, b2⟩; have h2 := h2 _ rfl)
        | (go_at_call 41; refine (lx_write _ h2 b2 (hq3 _)).mono ?_; rintro e W3 ⟨rfl, h3, b3⟩; have h3 := h3 _ rfl)
        | (go_at_call 42; refine (Any.Builder_WriteString_k lays166 bextra w.heap.size w.heap.size _ _ _ hI (by rw [Lib.byteCells_length]; exact Nat.le_trans (Nat.add_le_add hq1 (Nat.le_refl _)) (by decide)) hsz).mono ?_; rintro e W1 ⟨rfl, h1, b1, _⟩))
      all_goals
        refine ⟨⟨pre ++ [c], rest, by rw [hl]; simp, by simp, ?_, by first | assumption | exact hb.trans (by assumption)⟩, by simp only [intOf]; omega⟩
        rw [show [39] ++ (pre ++ [c]).flatMap txC = ([39] ++ pre.flatMap txC) ++ txC c by simp, txC_eq]
        clear hT hl hn' hn hc hlt hlp hx hx1
        try simp only [beq_iff_eq, beq_eq_false_iff_ne, ne_eq] at *
        first
          | (rw [if_pos (by omega)]
             rw [show Lib.strCells { data := #[39, 39] } = Lib.byteCells [39, 39] from rfl, ← Lib.byteCells_append] at h1
             exact Or.inr h1)
          | (rw [if_neg (by omega), if_pos (by omega)]
             rw [lx_hex hk1, lx_hex hk2] at h3
             simpa only [List.append_assoc, List.cons_append, List.nil_append] using h3)
          | (rw [if_neg (by omega), if_neg (by omega)]; exact h1)
theorem c_lex_text (N : Nat) : C_lex_text.Ok prog N := by
  refine ⟨⟨Tryd.f28, Tryd.func28, by kernel_rfl, by kernel_rfl⟩, fun a r h => ?_⟩
  have h : s_lex_text N a.1 = some r := h
  unfold s_lex_text at h
  obtain ⟨h1, h2⟩ := gd_some h
  obtain rfl := Option.some.inj h2
  intro M S w vs hh _ hsz hrep
  obtain ⟨v, rfl⟩ : ∃ v, vs = #[v] := by
    match vs, hsz with
    | ⟨[v]⟩, _ => exact ⟨v, rfl⟩
  have h0 : v = .string (bs a.1) := VRep.v_eq (hrep 0 (Nat.zero_lt_one))
  subst h0
  refine (lx_walk a.1 w (Nat.le_of_ble_eq_true h1)).mono ?_
  rintro e w' ⟨rfl, hb⟩
  have hg : Grew w w' := ⟨hb.os, hb.tape, hb.output, hb.size, hb.block⟩
  exact ⟨M, S, .data (.v _), hh.grew hg, .grew hh hg⟩
end Go.Proofs.YtmjmbhkohcdlpaaDoor.W
namespace Go.Proofs.YtmjmbhkohcdlpaaDoor.W
open Go Go.Shelf Go.RowKit Go.Proofs.Tryd
set_option maxHeartbeats 1000000
set_option maxRecDepth 1000000

theorem j_data (l : List UInt8) : (bs l).data.toList = l := by simp [bs]
theorem j_map (l : List (List UInt8)) : (l.map bs).map (·.data.toList) = l := by
  rw [List.map_map]
  exact (List.map_congr_left (fun x _ => j_data x)).trans (List.map_id l)
theorem j_rep {S : Nat → Prop} {w : World} {v : Value} {l : List (List UInt8)} (h : DRep S w v (.sl 1 (l.map fun x => .v (.string (bs x))))) :
    (l = [] ∧ ∃ a c, v = .slice a 0 c) ∨ ∃ g o cap, v = .slice (some ⟨g, o, none⟩) l.length cap ∧ l.length ≤ cap ∧ S g ∧ ∀ (j : Nat) x, (l.map bs)[j]? = some x → w.cell? ⟨g, o + j, none⟩ = some (.string x) := by
  generalize hx : l.map (fun x => AV.v (.string (bs x))) = xs at h
  cases h with
  | sl0 a cap => left; cases l with
    | nil => exact ⟨rfl, a, cap, rfl⟩
    | cons => cases hx
  | sl g o cap k _ c T fz hc hS hg hb hk h1 h =>
    have hl : xs.length = l.length := by rw [← hx, List.length_map]
    right
    refine ⟨g, o, cap, by rw [hl], by omega, hS, fun j x hj => ?_⟩
    rw [List.getElem?_map] at hj
    obtain ⟨y, hy, rfl⟩ := Option.map_eq_some_iff.1 hj
    obtain ⟨hjl, hy'⟩ := List.getElem?_eq_some_iff.1 hy
    have := h j (by omega) 0 (by omega)
    have e : xs.getD j .any = .v (.string (bs y)) := by rw [← hx]; simp [List.getD, hy]
    rw [e] at this
    have hv := drepv this
    rw [Nat.mul_one, Nat.add_zero] at hv
    rw [Lib.cell_of_heap hg]
    have hlt : o + j < c.size := by omega
    rw [Array.getElem?_eq_getElem hlt]
    rw [← hv]
    simp [Array.getD, hlt]
where drepv {S : Nat → Prop} {w : World} {v x : Value} (h : DRep S w v (.v x)) : v = x := by cases h; rfl
theorem c_strings_Join (N : Nat) : C_strings_Join.Ok prog N := by
  refine ⟨⟨Tryd.f33, Tryd.func33, by kernel_rfl, by kernel_rfl⟩, fun a r h => ?_⟩
  have h : s_strings_Join N a.1 a.2.1 = some r := h
  unfold s_strings_Join at h
  obtain ⟨h1, h2⟩ := gd_some h
  obtain ⟨k1, k2⟩ := (Bool.and_eq_true _ _).mp h1
  obtain rfl := Option.some.inj h2
  intro M S w vs hh _ hsz hrep
  obtain ⟨v, u, rfl⟩ : ∃ v u, vs = #[v, u] := by
    match vs, hsz with
    | ⟨[v, u]⟩, _ => exact ⟨v, u, rfl⟩
  have h0 := dat_rep (hrep 0 (Nat.zero_lt_succ 1)) rfl
  have hu : u = .string (bs a.2.1) := VRep.v_eq (hrep 1 (Nat.lt_succ_self 1))
  subst hu
  have hr : Calls Tryd.prog 33 #[v, .string (bs a.2.1)] w fun e w' => e = .returned (.string (bs (a.2.1.intercalate a.1))) ∧ Below w.heap.size w w' := by
    rcases j_rep h0 with ⟨hn, b, c, rfl⟩ | ⟨g, o, cap, rfl, hc, hS, hcell⟩
    · rw [hn]
      exact (Any.strings_Join_none lays156 bextra b c _ w).mono fun e w' ⟨he, hw⟩ => ⟨he, hw ▸ Below.refl _ _⟩
    · have := Any.strings_Join lays156 bextra g o cap (a.1.map bs) (bs a.2.1) w hcell (hh.sits g hS) (by rw [List.length_map]; exact Nat.le_of_ble_eq_true k2) (by rw [List.length_map]; exact hc) (by rw [j_map, j_data]; exact Nat.le_of_ble_eq_true k1)
      rw [List.length_map, j_map, j_data] at this
      exact this
  refine hr.mono ?_
  rintro e w' ⟨rfl, hb⟩
  have hg : Grew w w' := ⟨hb.os, hb.tape, hb.output, hb.size, hb.block⟩
  exact ⟨M, S, .data (.v _), hh.grew hg, .grew hh hg⟩
end Go.Proofs.YtmjmbhkohcdlpaaDoor.W
namespace Go.Proofs.YtmjmbhkohcdlpaaDoor.W
open Go Go.RowKit Go.Extern.Stop Go.Stop Go.Extern Go.Proofs.Tryd
set_option maxHeartbeats 4000000
set_option maxRecDepth 1000000
theorem fa_valueOf27 (t : Addr) (w : World) : (ReflectliteValue.unpack (.iface 105 (.pointer (some t)))).run Tryd.prog w
    = .ok (.agg #[.pointer (some ⟨3, 105, none⟩), .pointer (some ⟨w.heap.size, 0, none⟩), .int .u64 150]) (w.alloc (.cells #[.pointer (some t)] 105)) := by kernel_rfl
theorem fa_type27 (a : Addr) (w : World) : (ReflectliteValue.methodAny (ReflectliteValue.valueError "reflectlite.Value.Type" 0) (fun t _ _ _ => ReflectliteType.toType t) #[.agg #[.pointer (some ⟨3, 105, none⟩), .pointer (some a), .int .u64 150]]).run Tryd.prog w
    = .ok (.iface 129 (.agg #[.pointer (some ⟨3, 105, none⟩)])) w := by kernel_rfl
theorem fa_methodKind (h : Value) (w : World) : (Go.method 274 129 (.agg #[h]) "Kind").run Tryd.prog w = .ok (95, h) w := by kernel_rfl
theorem fa_kind27 (w : World) : ((ReflectliteType.abiMethod fun t => (fun a : Nat => Value.int IntKind.u8 (a : Int)) <$> Rtype.kind t) #[.pointer (some ⟨3, 105, none⟩)]).run Tryd.prog w = .ok (.int .u8 22) w := by kernel_rfl
theorem fa_kind25 (w : World) : ((ReflectliteType.abiMethod fun t => (fun a : Nat => Value.int IntKind.u8 (a : Int)) <$> Rtype.kind t) #[.pointer (some ⟨3, 81, none⟩)]).run Tryd.prog w = .ok (.int .u8 22) w := by kernel_rfl

theorem fa_rlm (z : Sem Value) (f : TypeId → Addr → Nat → Nat → Sem Value) (v : Value) :
    ReflectliteValue.method z f #[v] = (do match ← ReflectliteValue.parts v with | none => z | some (t, a, fl) => f t a fl (fl % 32)) := rfl
theorem fa_parts27 (a : Addr) (w : World) : (ReflectliteValue.parts (.agg #[.pointer (some ⟨3, 105, none⟩), .pointer (some a), .int .u64 150])).run Tryd.prog w = .ok (some (105, a, 150)) w := by kernel_rfl
theorem fa_isNil27 (a p : Addr) (W : World) (ha : W.cell? a = some (.pointer (some p))) :
    (ReflectliteValue.method (ReflectliteValue.valueError "reflectlite.Value.IsNil" 0) ReflectliteValue.isNil #[.agg #[.pointer (some ⟨3, 105, none⟩), .pointer (some a), .int .u64 150]]).run Tryd.prog W = .ok (.bool false) W := by
  rw [fa_rlm]
  simp only [Sem.run_bind, fa_parts27, Result.andThen]
  simp [ReflectliteValue.isNil, loadVar, isAgg, underlying, Tryd.underlying105, ha, Result.andThen]

theorem fa_methodElem (h : Value) (w : World) : (Go.method 274 129 (.agg #[h]) "Elem").run Tryd.prog w = .ok (112, .agg #[h]) w := by kernel_rfl
theorem fa_methodImplements (h : Value) (w : World) : (Go.method 274 129 (.agg #[h]) "Implements").run Tryd.prog w = .ok (113, .agg #[h]) w := by kernel_rfl
theorem fa_methodAssignableTo (h : Value) (w : World) : (Go.method 274 129 (.agg #[h]) "AssignableTo").run Tryd.prog w = .ok (110, .agg #[h]) w := by kernel_rfl
theorem fa_elem27 (w : World) : (ReflectliteType.method ReflectliteType.elem #[.agg #[.pointer (some ⟨3, 105, none⟩)]]).run Tryd.prog w = .ok (.iface 129 (.agg #[.pointer (some ⟨3, 81, none⟩)])) w := by kernel_rfl
theorem fa_implements25 (w : World) : (ReflectliteType.relation "Implements" ReflectliteType.implements_ #[.agg #[.pointer (some ⟨3, 81, none⟩)], .iface 129 (.agg #[.pointer (some ⟨3, 33, none⟩)])]).run Tryd.prog w = .ok (.bool true) w := by kernel_rfl
theorem fa_typeOf25 (v : Value) (w : World) : (ReflectliteType.typeOf #[.iface 81 v]).run Tryd.prog w = .ok (.iface 129 (.agg #[.pointer (some ⟨3, 81, none⟩)])) w := by kernel_rfl
theorem fa_assignable25 (w : World) : (ReflectliteType.relation "AssignableTo" ReflectliteType.assignableTo #[.agg #[.pointer (some ⟨3, 81, none⟩)], .iface 129 (.agg #[.pointer (some ⟨3, 81, none⟩)])]).run Tryd.prog w = .ok (.bool true) w := by kernel_rfl
theorem fa_valueOf25 (e : Addr) (w : World) : (ReflectliteValue.unpack (.iface 81 (.pointer (some e)))).run Tryd.prog w
    = .ok (.agg #[.pointer (some ⟨3, 81, none⟩), .pointer (some ⟨w.heap.size, 0, none⟩), .int .u64 150]) (w.alloc (.cells #[.pointer (some e)] 81)) := by kernel_rfl

theorem fa_elemOf27 (w : World) : (Rtype.elem? 105).run Tryd.prog w = .ok (some 81) w := by kernel_rfl
theorem fa_mk25 (p : Addr) (w : World) : (ReflectliteValue.mk 81 p ReflectliteValue.flagAddr).run Tryd.prog w = .ok (.agg #[.pointer (some ⟨3, 81, none⟩), .pointer (some p), .int .u64 406]) w := by kernel_rfl
theorem fa_elemV27 (a p : Addr) (W : World) (ha : W.cell? a = some (.pointer (some p))) :
    (ReflectliteValue.method (ReflectliteValue.valueError "reflectlite.Value.Elem" 0) ReflectliteValue.elem #[.agg #[.pointer (some ⟨3, 105, none⟩), .pointer (some a), .int .u64 150]]).run Tryd.prog W
      = .ok (.agg #[.pointer (some ⟨3, 81, none⟩), .pointer (some p), .int .u64 406]) W := by
  rw [fa_rlm]
  simp only [Sem.run_bind, fa_parts27, Result.andThen]
  simp [ReflectliteValue.elem, loadVar, isAgg, underlying, Tryd.underlying105, ha, Result.andThen, fa_elemOf27, fa_mk25]
theorem fa_rls (v x : Value) : ReflectliteValue.set #[v, x] = (do
    let (some (dst, a, fl), some (src, b, _)) := (← ReflectliteValue.parts v, ← ReflectliteValue.parts x)
      | unsupported (.noEntry "extern/(internal/reflectlite.Value).Set.zeroValue")
    if fl / ReflectliteValue.flagAddr % 2 == 0 then unsupported (.noEntry "extern/(internal/reflectlite.Value).Set.unaddressable")
    let val ← loadVar src b
    if ← Rtype.directlyAssignable dst src then storeVar dst a val
    else if ← Rtype.implements dst src then
      if (← Rtype.kind src) == 20 then
        match val with
        | .nilIface => unsupported (.noEntry "extern/reflectlite: a nil value of one interface type handed on as a value of another")
        | _ => storeVar dst a val
      else storeVar dst a (.iface src val)
    else panicString ("reflectlite.Set: value of type " ++ (← Rtype.spelt src) ++ " is not assignable to type " ++ (← Rtype.spelt dst))
    pure (.tuple #[])) := rfl
theorem fa_parts25a (a : Addr) (w : World) : (ReflectliteValue.parts (.agg #[.pointer (some ⟨3, 81, none⟩), .pointer (some a), .int .u64 406])).run Tryd.prog w = .ok (some (81, a, 406)) w := by kernel_rfl
theorem fa_parts25 (a : Addr) (w : World) : (ReflectliteValue.parts (.agg #[.pointer (some ⟨3, 81, none⟩), .pointer (some a), .int .u64 150])).run Tryd.prog w = .ok (some (81, a, 150)) w := by kernel_rfl
theorem fa_direct25 (w : World) : (Rtype.directlyAssignable 81 81).run Tryd.prog w = .ok true w := by kernel_rfl
theorem fa_size25 (w : World) : (sizeOf 81).run Tryd.prog w = .ok 1 w := by kernel_rfl
theorem fa_set25 (ta b e : Addr) (old : Value) (W : World) (hb : W.cell? b = some (.pointer (some e))) (ht : W.cell? ta = some old) (hf : W.frozen? ta = false) :
    (ReflectliteValue.set #[.agg #[.pointer (some ⟨3, 81, none⟩), .pointer (some ta), .int .u64 406], .agg #[.pointer (some ⟨3, 81, none⟩), .pointer (some b), .int .u64 150]]).run Tryd.prog W
      = .ok (.tuple #[]) (W.setCell ta (.pointer (some e))) := by
  rw [fa_rls]
  simp only [Sem.run_bind, fa_parts25a, fa_parts25, Result.andThen]
  simp [ReflectliteValue.flagAddr, loadVar, isAgg, underlying, Tryd.underlying81, hb, Result.andThen, fa_direct25, storeVar, Value.cells, storeCells, Addr.add]
  rw [run_store Tryd.prog W ta _ _ (by rfl)]
  simp [ht, hf]

set_option maxHeartbeats 4000000 in
theorem fa_hit (e t : Addr) (old : Value) (w : World) (hg : w.cell? ⟨0, 0, none⟩ = some (.iface 129 (.agg #[.pointer (some ⟨3, 33, none⟩)]))) (ht0 : w.cell? t = some old) (hf0 : w.frozen? t = false) :
    Calls Tryd.prog 39 #[.iface 81 (.pointer (some e)), .iface 105 (.pointer (some t))] w fun ev w' => ev = .returned (.bool true) ∧ w' = ((((w.alloc (.cells #[.pointer (some t)] 105)).alloc (.cells #[.pointer (some ⟨3, 105, none⟩), .pointer (some ⟨w.heap.size, 0, none⟩), .int .u64 150] 109)).alloc (.cells #[.pointer (some ⟨3, 105, none⟩), .pointer (some ⟨w.heap.size, 0, none⟩), .int .u64 150] 109)).alloc (.cells #[.pointer (some e)] 81)).setCell t (.pointer (some e)) := by
  have h6 := @run_callFunc_extern Tryd.prog 56 _ (fun args => ReflectliteValue.unpack (args.getD 0 (.tuple #[]))) Tryd.func56 (by kernel_rfl) (by kernel_rfl) (by kernel_rfl) (by kernel_rfl)
  have h7 := @run_callFunc_extern Tryd.prog 57 _ (ReflectliteValue.methodAny (ReflectliteValue.valueError "reflectlite.Value.Type" 0) (fun t _ _ _ => ReflectliteType.toType t)) Tryd.func57 (by kernel_rfl) (by kernel_rfl) (by kernel_rfl) (by kernel_rfl)
  have h8 := @run_callFunc_extern Tryd.prog 58 _ (ReflectliteValue.method (ReflectliteValue.valueError "reflectlite.Value.IsNil" 0) ReflectliteValue.isNil) Tryd.func58 (by kernel_rfl) (by kernel_rfl) (by kernel_rfl) (by kernel_rfl)
  have h27 := @run_callFunc_extern Tryd.prog 95 _ (ReflectliteType.abiMethod fun t => do pure (.int .u8 (← Rtype.kind t))) Tryd.func95 (by kernel_rfl) (by kernel_rfl) (by kernel_rfl) (by kernel_rfl)
  have h37 := @run_callFunc_extern Tryd.prog 112 _ (ReflectliteType.method ReflectliteType.elem) Tryd.func112 (by kernel_rfl) (by kernel_rfl) (by kernel_rfl) (by kernel_rfl)
  have h38 := @run_callFunc_extern Tryd.prog 113 _ (ReflectliteType.relation "Implements" ReflectliteType.implements_) Tryd.func113 (by kernel_rfl) (by kernel_rfl) (by kernel_rfl) (by kernel_rfl)
  have h10 := @run_callFunc_extern Tryd.prog 60 _ ReflectliteType.typeOf Tryd.func60 (by kernel_rfl) (by kernel_rfl) (by kernel_rfl) (by kernel_rfl)
  have h35 := @run_callFunc_extern Tryd.prog 110 _ (ReflectliteType.relation "AssignableTo" ReflectliteType.assignableTo) Tryd.func110 (by kernel_rfl) (by kernel_rfl) (by kernel_rfl) (by kernel_rfl)
  have h11 := @run_callFunc_extern Tryd.prog 74 _ (ReflectliteValue.method (ReflectliteValue.valueError "reflectlite.Value.Elem" 0) ReflectliteValue.elem) Tryd.func74 (by kernel_rfl) (by kernel_rfl) (by kernel_rfl) (by kernel_rfl)
  have h12 := @run_callFunc_extern Tryd.prog 75 _ ReflectliteValue.set Tryd.func75 (by kernel_rfl) (by kernel_rfl) (by kernel_rfl) (by kernel_rfl)
  have tO := fa_typeOf25
  have mA := fa_methodAssignableTo
  have a25 := fa_assignable25
  have v25 := fa_valueOf25
  have f6 := fa_valueOf27
  have f7 := fa_type27
  have mK := fa_methodKind
  have mE := fa_methodElem
  have mI := fa_methodImplements
  have k27 := fa_kind27
  have k25 := fa_kind25
  have e27 := fa_elem27
  have i25 := fa_implements25
  have n8 := fa_isNil27 ⟨w.heap.size, 0, none⟩ t ((w.alloc (.cells #[.pointer (some t)] 105)).alloc (.cells #[.pointer (some ⟨3, 105, none⟩), .pointer (some ⟨w.heap.size, 0, none⟩), .int .u64 150] 109)) (by simp)
  have hlt : 0 < w.heap.size := by
    rcases Nat.lt_or_ge 0 w.heap.size with h | h
    · exact h
    · simp [World.cell?, Array.getElem?_eq_none h] at hg
  have hg2 : ((w.alloc (.cells #[.pointer (some t)] 105)).alloc (.cells #[.pointer (some ⟨3, 105, none⟩), .pointer (some ⟨w.heap.size, 0, none⟩), .int .u64 150] 109)).cell? ⟨0, 0, none⟩ = some (.iface 129 (.agg #[.pointer (some ⟨3, 33, none⟩)])) := by
    rw [World.cell?_alloc_lt _ _ ⟨0, 0, none⟩ (by simp), World.cell?_alloc_lt _ _ ⟨0, 0, none⟩ hlt]; exact hg
  have htl : t.block < w.heap.size := by
    rcases Nat.lt_or_ge t.block w.heap.size with h | h
    · exact h
    · simp [World.cell?, Array.getElem?_eq_none h] at ht0
  have el := fa_elemV27 ⟨w.heap.size, 0, none⟩ t (((w.alloc (.cells #[.pointer (some t)] 105)).alloc (.cells #[.pointer (some ⟨3, 105, none⟩), .pointer (some ⟨w.heap.size, 0, none⟩), .int .u64 150] 109)).alloc (.cells #[.pointer (some ⟨3, 105, none⟩), .pointer (some ⟨w.heap.size, 0, none⟩), .int .u64 150] 109)) (by rw [World.cell?_alloc_lt _ _ ⟨w.heap.size, 0, none⟩ (by simp; omega)]; simp)
  have st := fa_set25 t ⟨w.heap.size + 1 + 1 + 1, 0, none⟩ e old ((((w.alloc (.cells #[.pointer (some t)] 105)).alloc (.cells #[.pointer (some ⟨3, 105, none⟩), .pointer (some ⟨w.heap.size, 0, none⟩), .int .u64 150] 109)).alloc (.cells #[.pointer (some ⟨3, 105, none⟩), .pointer (some ⟨w.heap.size, 0, none⟩), .int .u64 150] 109)).alloc (.cells #[.pointer (some e)] 81))
    (by rw [World.cell?_alloc_at _ _ _ _ (by simp)]; rfl)
    (by rw [World.cell?_alloc_lt _ _ t (by simp; omega), World.cell?_alloc_lt _ _ t (by simp; omega), World.cell?_alloc_lt _ _ t (by simp; omega), World.cell?_alloc_lt _ _ t htl]; exact ht0)
    (by rw [World.frozen?_alloc_old _ _ t (by simp; omega), World.frozen?_alloc_old _ _ t (by simp; omega), World.frozen?_alloc_old _ _ t (by simp; omega), World.frozen?_alloc_old _ _ t (Nat.ne_of_lt htl)]; exact hf0)
  go_enter Tryd.func39, Tryd.ntmps39
  go_wp2
  refine wp_loop_rounds 1 ?_
  rw [rounds_succ]
  go_wp2
  go_ret
  exact ⟨rfl, rfl⟩
theorem find_hit (p : Addr) (w : World) (hg : w.cell? ⟨0, 0, none⟩ = some (.iface 129 (.agg #[.pointer (some ⟨3, 33, none⟩)]))) (hlt : 0 < w.heap.size) : Calls Tryd.prog 38 #[.iface 81 (.pointer (some p))] w fun e w' => e = .returned (.pointer (some p)) ∧ Below w.heap.size w w' := by
  have hgA : (w.alloc (.cells #[.pointer none] 81)).cell? ⟨0, 0, none⟩ = some (.iface 129 (.agg #[.pointer (some ⟨3, 33, none⟩)])) := by
    rw [World.cell?_alloc_lt _ _ ⟨0, 0, none⟩ hlt]; exact hg
  have htA : (w.alloc (.cells #[.pointer none] 81)).cell? ⟨w.heap.size, 0, none⟩ = some (.pointer none) := by simp
  have hfA : (w.alloc (.cells #[.pointer none] 81)).frozen? ⟨w.heap.size, 0, none⟩ = false := by simp
  go_enter Tryd.func38, Tryd.ntmps38
  go_wp2_with (go_at_call 39; refine (fa_hit _ _ (.pointer none) _ hgA htA hfA).mono ?_; rintro e w' ⟨rfl, rfl⟩)
  go_ret
  refine ⟨rfl, ?_⟩
  exact (((((Below.refl _ w).alloc (Nat.le_refl _) _).alloc (by simp) _).alloc (by simp; omega) _).alloc (by simp; omega) _).alloc (by simp; omega) _
theorem c_fault_find_f (N : Nat) : C_fault_find_f.Ok prog N := by
  refine ⟨⟨Tryd.f38, Tryd.func38, by kernel_rfl, by kernel_rfl⟩, fun a r h => ?_⟩
  obtain ⟨⟨n, p, ⟨⟩⟩, ⟨⟩⟩ := a
  have h : s_fault_find_f N n p = some r := h
  obtain rfl := Option.some.inj h
  intro M S w vs hh hp hsz hrep
  obtain ⟨v, rfl⟩ : ∃ v, vs = #[v] := by
    match vs, hsz with
    | ⟨[v]⟩, _ => exact ⟨v, rfl⟩
  obtain ⟨u, hu, h1⟩ := ifc_rep (hrep 0 (Nat.zero_lt_one))
  have hu : v = .iface 81 u := hu
  subst hu
  have hq : ∃ q, u = .pointer (some q) := by
    cases h1 with | data h1 => cases h1; exact ⟨_, rfl⟩
  obtain ⟨q, rfl⟩ := hq
  obtain ⟨h2, _, h3⟩ := hp _ _ (show envCell prog = some (0, .iface 129 (.agg #[.pointer (some ⟨3, 33, none⟩)])) from by kernel_rfl)
  refine (find_hit q w h2 h3).mono ?_
  rintro e w' ⟨rfl, hb⟩
  have hg : Grew w w' := ⟨hb.os, hb.tape, hb.output, hb.size, hb.block⟩
  exact ⟨M, S, VRep.grew hh hg h1, hh.grew hg, .grew hh hg⟩
end Go.Proofs.YtmjmbhkohcdlpaaDoor.W
namespace Go.Proofs.YtmjmbhkohcdlpaaDoor.W
open Go
open Go.Proofs.Tryd
set_option maxRecDepth 1000000
set_option linter.unusedSimpArgs false
set_option linter.unusedVariables false
noncomputable section
def F_law04_Small : Fn C_law04_Small := ⟨f7, [], ⟨[], [], sbf, bof⟩, [], [true], none, 0, 0⟩
theorem o_law04_Small : F_law04_Small.Ok prog := ⟨Is.of (by kernel_rfl) (by kernel_rfl), by kernel_rfl, hint_sb sb_ok bo_ok, trivial, trivial, fun _ => by kernel_rfl⟩
theorem c_law04_Small (N : Nat) : C_law04_Small.Ok prog N := o_law04_Small.give tb_ok hm N N trivial fun a r s h => by
  exact s.main [] trivial (.trans (by kernel_rfl) h)
def F_law10_Over : Fn C_law10_Over := ⟨f14, [], ⟨[], [], sbf, bof⟩, [C_law04_Small], [true], none, 0, 0⟩
theorem o_law10_Over : F_law10_Over.Ok prog := ⟨Is.of (by kernel_rfl) (by kernel_rfl), by kernel_rfl, hint_sb sb_ok bo_ok, trivial, trivial, fun _ => by kernel_rfl⟩
theorem c_law10_Over (N : Nat) : C_law10_Over.Ok prog N := o_law10_Over.give tb_ok hm N N ⟨c_law04_Small N, trivial⟩ fun a r s h => by
  have l0 := s.loop 0 q_law10_Over_0 (f_law10_Over_0 N) N fun next0 h0 => by
    exact fun c v => s.seg 0 q_law10_Over_0 [(0, .of q_law10_Over_0 next0)] ⟨h0, trivial⟩ (by kernel_rfl) (by kernel_rfl)
  exact s.main [(0, .of q_law10_Over_0 (r_law10_Over_0 N))] ⟨l0, trivial⟩ (.trans (by kernel_rfl) h)
def F_lex_small : Fn C_lex_small := ⟨f45, [], ⟨[], [], sbf, bof⟩, [], [true], none, 0, 0⟩
theorem o_lex_small : F_lex_small.Ok prog := ⟨Is.of (by kernel_rfl) (by kernel_rfl), by kernel_rfl, hint_sb sb_ok bo_ok, trivial, trivial, fun _ => by kernel_rfl⟩
theorem c_lex_small (N : Nat) : C_lex_small.Ok prog N := o_lex_small.give tb_ok hm N N trivial fun a r s h => by
  exact s.main [] trivial (.trans (by kernel_rfl) h)
def F_lex_scanner_fail_v359 : Fn C_lex_scanner_fail_v359 := ⟨f48, [], ⟨[], [], sbf, bof⟩, [C_fault_New], [false], none, 1, 1⟩
theorem o_lex_scanner_fail_v359 : F_lex_scanner_fail_v359.Ok prog := ⟨Is.of (by kernel_rfl) (by kernel_rfl), by kernel_rfl, hint_sb sb_ok bo_ok, trivial, trivial, fun _ => by kernel_rfl⟩
theorem c_lex_scanner_fail_v359 (N : Nat) : C_lex_scanner_fail_v359.Ok prog N := o_lex_scanner_fail_v359.give tb_ok hm N N ⟨c_fault_New N, trivial⟩ fun a r s h => by
  exact s.main [] trivial (.trans (by kernel_rfl) h)
def F_lex_digit : Fn C_lex_digit := ⟨f46, [], ⟨[], [], sbf, bof⟩, [], [true], none, 0, 0⟩
theorem o_lex_digit : F_lex_digit.Ok prog := ⟨Is.of (by kernel_rfl) (by kernel_rfl), by kernel_rfl, hint_sb sb_ok bo_ok, trivial, trivial, fun _ => by kernel_rfl⟩
theorem c_lex_digit (N : Nat) : C_lex_digit.Ok prog N := o_lex_digit.give tb_ok hm N N trivial fun a r s h => by
  exact s.main [] trivial (.trans (by kernel_rfl) h)
def F_lex_tail : Fn C_lex_tail := ⟨f66, [], ⟨[], [], sbf, bof⟩, [C_lex_small, C_lex_digit], [true], none, 0, 0⟩
theorem o_lex_tail : F_lex_tail.Ok prog := ⟨Is.of (by kernel_rfl) (by kernel_rfl), by kernel_rfl, hint_sb sb_ok bo_ok, trivial, trivial, fun _ => by kernel_rfl⟩
theorem c_lex_tail (N : Nat) : C_lex_tail.Ok prog N := o_lex_tail.give tb_ok hm N N ⟨c_lex_small N, c_lex_digit N, trivial⟩ fun a r s h => by
  exact s.main [] trivial (.trans (by kernel_rfl) h)
def F_lex_scanner_length_v869 : Fn C_lex_scanner_length_v869 := ⟨f65, [], ⟨[], [], sbf, bof⟩, [C_lex_tail], [true], none, 1, 1⟩
theorem o_lex_scanner_length_v869 : F_lex_scanner_length_v869.Ok prog := ⟨Is.of (by kernel_rfl) (by kernel_rfl), by kernel_rfl, hint_sb sb_ok bo_ok, trivial, trivial, fun _ => by kernel_rfl⟩
theorem c_lex_scanner_length_v869 (N : Nat) : C_lex_scanner_length_v869.Ok prog N := o_lex_scanner_length_v869.give tb_ok hm N N ⟨c_lex_tail N, trivial⟩ fun a r s h => by
  have l0 := s.loop 0 q_lex_scanner_length_v869_0 (f_lex_scanner_length_v869_0 N) N fun next0 h0 => by
    exact fun c v => s.seg 0 q_lex_scanner_length_v869_0 [(0, .of q_lex_scanner_length_v869_0 next0)] ⟨h0, trivial⟩ (by kernel_rfl) (by kernel_rfl)
  exact s.main [(0, .of q_lex_scanner_length_v869_0 (r_lex_scanner_length_v869_0 N))] ⟨l0, trivial⟩ (.trans (by kernel_rfl) h)
def F_value_OfFlag : Fn C_value_OfFlag := ⟨f68, [], ⟨[], [], sbf, bof⟩, [], [true], none, 0, 0⟩
theorem o_value_OfFlag : F_value_OfFlag.Ok prog := ⟨Is.of (by kernel_rfl) (by kernel_rfl), by kernel_rfl, hint_sb sb_ok bo_ok, trivial, trivial, fun _ => by kernel_rfl⟩
theorem c_value_OfFlag (N : Nat) : C_value_OfFlag.Ok prog N := o_value_OfFlag.give tb_ok hm N N trivial fun a r s h => by
  exact s.main [] trivial (.trans (by kernel_rfl) h)
def F_lex_scanner_put_v420 : Fn C_lex_scanner_put_v420 := ⟨f67, [], ⟨[(24, 1)], [], sbf, bof⟩, [], [false], none, 1, 1⟩
theorem o_lex_scanner_put_v420 : F_lex_scanner_put_v420.Ok prog := ⟨Is.of (by kernel_rfl) (by kernel_rfl), by kernel_rfl, hint_sb sb_ok bo_ok, trivial, trivial, fun _ => by kernel_rfl⟩
theorem c_lex_scanner_put_v420 (N : Nat) : C_lex_scanner_put_v420.Ok prog N := o_lex_scanner_put_v420.give tb_ok hm N N trivial fun a r s h => by
  exact s.main [] trivial (.trans (by kernel_rfl) h)
def F_schema_Reserved : Fn C_schema_Reserved := ⟨f69, [], ⟨[], [], sbf, bof⟩, [], [true], none, 0, 0⟩
theorem o_schema_Reserved : F_schema_Reserved.Ok prog := ⟨Is.of (by kernel_rfl) (by kernel_rfl), by kernel_rfl, hint_sb sb_ok bo_ok, trivial, trivial, fun _ => by kernel_rfl⟩
theorem c_schema_Reserved (N : Nat) : C_schema_Reserved.Ok prog N := o_schema_Reserved.give tb_ok hm N N trivial fun a r s h => by
  exact s.main [] trivial (.trans (by kernel_rfl) h)
def F_lex_scanner_word_v558 : Fn C_lex_scanner_word_v558 := ⟨f49, [], ⟨[], [], sbf, bof⟩, [C_lex_scanner_length_v869, C_value_OfFlag, C_lex_scanner_put_v420, C_schema_Reserved, C_lex_scanner_fail_v359], [false], none, 1, 1⟩
theorem o_lex_scanner_word_v558 : F_lex_scanner_word_v558.Ok prog := ⟨Is.of (by kernel_rfl) (by kernel_rfl), by kernel_rfl, hint_sb sb_ok bo_ok, trivial, trivial, fun _ => by kernel_rfl⟩
theorem c_lex_scanner_word_v558 (N : Nat) : C_lex_scanner_word_v558.Ok prog N := o_lex_scanner_word_v558.give tb_ok hm N N ⟨c_lex_scanner_length_v869 N, c_value_OfFlag N, c_lex_scanner_put_v420 N, c_schema_Reserved N, c_lex_scanner_fail_v359 N, trivial⟩ fun a r s h => by
  exact s.main [] trivial (.trans (by kernel_rfl) h)
def F_lex_scanner_length_v416 : Fn C_lex_scanner_length_v416 := ⟨f65, [], ⟨[], [], sbf, bof⟩, [C_lex_digit], [true], none, 1, 1⟩
theorem o_lex_scanner_length_v416 : F_lex_scanner_length_v416.Ok prog := ⟨Is.of (by kernel_rfl) (by kernel_rfl), by kernel_rfl, hint_sb sb_ok bo_ok, trivial, trivial, fun _ => by kernel_rfl⟩
theorem c_lex_scanner_length_v416 (N : Nat) : C_lex_scanner_length_v416.Ok prog N := o_lex_scanner_length_v416.give tb_ok hm N N ⟨c_lex_digit N, trivial⟩ fun a r s h => by
  have l0 := s.loop 0 q_lex_scanner_length_v416_0 (f_lex_scanner_length_v416_0 N) N fun next0 h0 => by
    exact fun c v => s.seg 0 q_lex_scanner_length_v416_0 [(0, .of q_lex_scanner_length_v416_0 next0)] ⟨h0, trivial⟩ (by kernel_rfl) (by kernel_rfl)
  exact s.main [(0, .of q_lex_scanner_length_v416_0 (r_lex_scanner_length_v416_0 N))] ⟨l0, trivial⟩ (.trans (by kernel_rfl) h)
def F_value_OfInt : Fn C_value_OfInt := ⟨f12, [], ⟨[], [], sbf, bof⟩, [], [true], none, 0, 0⟩
theorem o_value_OfInt : F_value_OfInt.Ok prog := ⟨Is.of (by kernel_rfl) (by kernel_rfl), by kernel_rfl, hint_sb sb_ok bo_ok, trivial, trivial, fun _ => by kernel_rfl⟩
theorem c_value_OfInt (N : Nat) : C_value_OfInt.Ok prog N := o_value_OfInt.give tb_ok hm N N trivial fun a r s h => by
  exact s.main [] trivial (.trans (by kernel_rfl) h)
def F_lex_scanner_number_v558 : Fn C_lex_scanner_number_v558 := ⟨f50, [], ⟨[], [], sbf, bof⟩, [C_lex_scanner_length_v416, C_lex_scanner_fail_v359, C_value_OfInt, C_lex_scanner_put_v420], [false], none, 1, 1⟩
theorem o_lex_scanner_number_v558 : F_lex_scanner_number_v558.Ok prog := ⟨Is.of (by kernel_rfl) (by kernel_rfl), by kernel_rfl, hint_sb sb_ok bo_ok, trivial, trivial, fun _ => by kernel_rfl⟩
theorem c_lex_scanner_number_v558 (N : Nat) : C_lex_scanner_number_v558.Ok prog N := o_lex_scanner_number_v558.give tb_ok hm N N ⟨c_lex_scanner_length_v416 N, c_lex_scanner_fail_v359 N, c_value_OfInt N, c_lex_scanner_put_v420 N, trivial⟩ fun a r s h => by
  have l0 := s.loop 0 q_lex_scanner_number_v558_0 (f_lex_scanner_number_v558_0 N) N fun next0 h0 => by
    exact fun c v => s.seg 0 q_lex_scanner_number_v558_0 [(0, .of q_lex_scanner_number_v558_0 next0)] ⟨h0, trivial⟩ (by kernel_rfl) (by kernel_rfl)
  exact s.main [(0, .of q_lex_scanner_number_v558_0 (r_lex_scanner_number_v558_0 N))] ⟨l0, trivial⟩ (.trans (by kernel_rfl) h)
def F_stringslite_IndexByte : Fn C_stringslite_IndexByte := ⟨f64, [(77, .ib)], ⟨[], [], sbf, bof⟩, [], [true], none, 0, 0⟩
theorem o_stringslite_IndexByte : F_stringslite_IndexByte.Ok prog := ⟨Is.of (by kernel_rfl) (by kernel_rfl), by kernel_rfl, hint_sb sb_ok bo_ok, trivial, ⟨ExtIs.mk' f77 (by kernel_rfl) (by kernel_rfl) (by kernel_rfl) (by kernel_rfl) (by kernel_rfl), trivial⟩, fun _ => by kernel_rfl⟩
theorem c_stringslite_IndexByte (N : Nat) : C_stringslite_IndexByte.Ok prog N := o_stringslite_IndexByte.give tb_ok hm N N trivial fun a r s h => by
  exact s.main [] trivial (.trans (by kernel_rfl) h)
def F_strings_IndexByte : Fn C_strings_IndexByte := ⟨f47, [], ⟨[], [], sbf, bof⟩, [C_stringslite_IndexByte], [true], none, 0, 0⟩
theorem o_strings_IndexByte : F_strings_IndexByte.Ok prog := ⟨Is.of (by kernel_rfl) (by kernel_rfl), by kernel_rfl, hint_sb sb_ok bo_ok, trivial, trivial, fun _ => by kernel_rfl⟩
theorem c_strings_IndexByte (N : Nat) : C_strings_IndexByte.Ok prog N := o_strings_IndexByte.give tb_ok hm N N ⟨c_stringslite_IndexByte N, trivial⟩ fun a r s h => by
  exact s.main [] trivial (.trans (by kernel_rfl) h)
def F_lex_base16 : Fn C_lex_base16 := ⟨f70, [], ⟨[], [], sbf, bof⟩, [C_strings_IndexByte], [true], none, 0, 0⟩
theorem o_lex_base16 : F_lex_base16.Ok prog := ⟨Is.of (by kernel_rfl) (by kernel_rfl), by kernel_rfl, hint_sb sb_ok bo_ok, trivial, trivial, fun _ => by kernel_rfl⟩
theorem c_lex_base16 (N : Nat) : C_lex_base16.Ok prog N := o_lex_base16.give tb_ok hm N N ⟨c_strings_IndexByte N, trivial⟩ fun a r s h => by
  exact s.main [] trivial (.trans (by kernel_rfl) h)
def F_real_of : Fn C_real_of := ⟨f44, [(63, .fb)], ⟨[], [], sbf, bof⟩, [], [true], none, 0, 0⟩
theorem o_real_of : F_real_of.Ok prog := ⟨Is.of (by kernel_rfl) (by kernel_rfl), by kernel_rfl, hint_sb sb_ok bo_ok, trivial, ⟨ExtIs.mk' f63 (by kernel_rfl) (by kernel_rfl) (by kernel_rfl) (by kernel_rfl) (by kernel_rfl), trivial⟩, fun _ => by kernel_rfl⟩
theorem c_real_of (N : Nat) : C_real_of.Ok prog N := o_real_of.give tb_ok hm N N trivial fun a r s h => by
  exact s.main [] trivial (.trans (by kernel_rfl) h)
def F_real_Clean : Fn C_real_Clean := ⟨f30, [], ⟨[], [], sbf, bof⟩, [C_real_of], [true], none, 0, 0⟩
theorem o_real_Clean : F_real_Clean.Ok prog := ⟨Is.of (by kernel_rfl) (by kernel_rfl), by kernel_rfl, hint_sb sb_ok bo_ok, trivial, trivial, fun _ => by kernel_rfl⟩
theorem c_real_Clean (N : Nat) : C_real_Clean.Ok prog N := o_real_Clean.give tb_ok hm N N ⟨c_real_of N, trivial⟩ fun a r s h => by
  exact s.main [] trivial (.trans (by kernel_rfl) h)
def F_value_OfReal : Fn C_value_OfReal := ⟨f25, [], ⟨[], [], sbf, bof⟩, [C_real_Clean], [true], none, 0, 0⟩
theorem o_value_OfReal : F_value_OfReal.Ok prog := ⟨Is.of (by kernel_rfl) (by kernel_rfl), by kernel_rfl, hint_sb sb_ok bo_ok, trivial, trivial, fun _ => by kernel_rfl⟩
theorem c_value_OfReal (N : Nat) : C_value_OfReal.Ok prog N := o_value_OfReal.give tb_ok hm N N ⟨c_real_Clean N, trivial⟩ fun a r s h => by
  exact s.main [] trivial (.trans (by kernel_rfl) h)
end
end Go.Proofs.YtmjmbhkohcdlpaaDoor.W
namespace Go.Proofs.YtmjmbhkohcdlpaaDoor.W
open Go
open Go.Proofs.Tryd
set_option maxRecDepth 1000000
set_option linter.unusedSimpArgs false
set_option linter.unusedVariables false
noncomputable section
def F_lex_scanner_double_v558 : Fn C_lex_scanner_double_v558 := ⟨f51, [], ⟨[], [], sbf, bof⟩, [C_lex_scanner_fail_v359, C_lex_base16, C_real_Clean, C_value_OfReal, C_lex_scanner_put_v420], [false], none, 1, 1⟩
theorem o_lex_scanner_double_v558 : F_lex_scanner_double_v558.Ok prog := ⟨Is.of (by kernel_rfl) (by kernel_rfl), by kernel_rfl, hint_sb sb_ok bo_ok, trivial, trivial, fun _ => by kernel_rfl⟩
theorem c_lex_scanner_double_v558 (N : Nat) : C_lex_scanner_double_v558.Ok prog N := o_lex_scanner_double_v558.give tb_ok hm N N ⟨c_lex_scanner_fail_v359 N, c_lex_base16 N, c_real_Clean N, c_value_OfReal N, c_lex_scanner_put_v420 N, trivial⟩ fun a r s h => by
  have l0 := s.loop 0 q_lex_scanner_double_v558_0 (f_lex_scanner_double_v558_0 N) N fun next0 h0 => by
    exact fun c v => s.seg 0 q_lex_scanner_double_v558_0 [(0, .of q_lex_scanner_double_v558_0 next0)] ⟨h0, trivial⟩ (by kernel_rfl) (by kernel_rfl)
  exact s.main [(0, .of q_lex_scanner_double_v558_0 (r_lex_scanner_double_v558_0 N))] ⟨l0, trivial⟩ (.trans (by kernel_rfl) h)
def F_lex_scanner_escaped_v359 : Fn C_lex_scanner_escaped_v359 := ⟨f71, [], ⟨[], [], sbf, bof⟩, [C_lex_base16], [true, true], none, 1, 1⟩
theorem o_lex_scanner_escaped_v359 : F_lex_scanner_escaped_v359.Ok prog := ⟨Is.of (by kernel_rfl) (by kernel_rfl), by kernel_rfl, hint_sb sb_ok bo_ok, trivial, trivial, fun _ => by kernel_rfl⟩
theorem c_lex_scanner_escaped_v359 (N : Nat) : C_lex_scanner_escaped_v359.Ok prog N := o_lex_scanner_escaped_v359.give tb_ok hm N N ⟨c_lex_base16 N, trivial⟩ fun a r s h => by
  exact s.main [] trivial (.trans (by kernel_rfl) h)
def F_value_OfText : Fn C_value_OfText := ⟨f24, [], ⟨[], [], sbf, bof⟩, [], [true], none, 0, 0⟩
theorem o_value_OfText : F_value_OfText.Ok prog := ⟨Is.of (by kernel_rfl) (by kernel_rfl), by kernel_rfl, hint_sb sb_ok bo_ok, trivial, trivial, fun _ => by kernel_rfl⟩
theorem c_value_OfText (N : Nat) : C_value_OfText.Ok prog N := o_value_OfText.give tb_ok hm N N trivial fun a r s h => by
  exact s.main [] trivial (.trans (by kernel_rfl) h)
def F_lex_scanner_quoted_v558 : Fn C_lex_scanner_quoted_v558 := ⟨f52, [], ⟨[(52, 2), (61, 2), (86, 2)], [], sbf, bof⟩, [C_fault_New, C_lex_scanner_escaped_v359, C_lex_scanner_fail_v359, C_value_OfText, C_lex_scanner_put_v420], [false], none, 1, 1⟩
theorem o_lex_scanner_quoted_v558 : F_lex_scanner_quoted_v558.Ok prog := ⟨Is.of (by kernel_rfl) (by kernel_rfl), by kernel_rfl, hint_sb sb_ok bo_ok, trivial, trivial, fun _ => by kernel_rfl⟩
theorem c_lex_scanner_quoted_v558 (N : Nat) : C_lex_scanner_quoted_v558.Ok prog N := o_lex_scanner_quoted_v558.give tb_ok hm N N ⟨c_fault_New N, c_lex_scanner_escaped_v359 N, c_lex_scanner_fail_v359 N, c_value_OfText N, c_lex_scanner_put_v420 N, trivial⟩ fun a r s h => by
  have l0 := s.loop 0 q_lex_scanner_quoted_v558_0 (f_lex_scanner_quoted_v558_0 N) N fun next0 h0 => by
    exact fun c v => s.seg 0 q_lex_scanner_quoted_v558_0 [(0, .of q_lex_scanner_quoted_v558_0 next0)] ⟨h0, trivial⟩ (by kernel_rfl) (by kernel_rfl)
  exact s.main [(0, .of q_lex_scanner_quoted_v558_0 (r_lex_scanner_quoted_v558_0 N))] ⟨l0, trivial⟩ (.trans (by kernel_rfl) h)
def F_lex_scanner_sign_v558 : Fn C_lex_scanner_sign_v558 := ⟨f53, [], ⟨[], [], sbf, bof⟩, [C_strings_IndexByte, C_lex_scanner_put_v420], [false], none, 1, 1⟩
theorem o_lex_scanner_sign_v558 : F_lex_scanner_sign_v558.Ok prog := ⟨Is.of (by kernel_rfl) (by kernel_rfl), by kernel_rfl, hint_sb sb_ok bo_ok, trivial, trivial, fun _ => by kernel_rfl⟩
theorem c_lex_scanner_sign_v558 (N : Nat) : C_lex_scanner_sign_v558.Ok prog N := o_lex_scanner_sign_v558.give tb_ok hm N N ⟨c_strings_IndexByte N, c_lex_scanner_put_v420 N, trivial⟩ fun a r s h => by
  exact s.main [] trivial (.trans (by kernel_rfl) h)
def F_lex_scanner_token_v558 : Fn C_lex_scanner_token_v558 := ⟨f32, [], ⟨[], [], sbf, bof⟩, [C_lex_small, C_lex_scanner_fail_v359, C_lex_scanner_word_v558, C_lex_digit, C_lex_scanner_number_v558, C_lex_scanner_double_v558, C_lex_scanner_quoted_v558, C_lex_scanner_sign_v558, C_strings_IndexByte], [false], none, 1, 1⟩
theorem o_lex_scanner_token_v558 : F_lex_scanner_token_v558.Ok prog := ⟨Is.of (by kernel_rfl) (by kernel_rfl), by kernel_rfl, hint_sb sb_ok bo_ok, trivial, trivial, fun _ => by kernel_rfl⟩
theorem c_lex_scanner_token_v558 (N : Nat) : C_lex_scanner_token_v558.Ok prog N := o_lex_scanner_token_v558.give tb_ok hm N N ⟨c_lex_small N, c_lex_scanner_fail_v359 N, c_lex_scanner_word_v558 N, c_lex_digit N, c_lex_scanner_number_v558 N, c_lex_scanner_double_v558 N, c_lex_scanner_quoted_v558 N, c_lex_scanner_sign_v558 N, c_strings_IndexByte N, trivial⟩ fun a r s h => by
  exact s.main [] trivial (.trans (by kernel_rfl) h)
def F_lex_Scan : Fn C_lex_Scan := ⟨f11, [], ⟨[], [], sbf, bof⟩, [C_fault_New, C_lex_scanner_token_v558], [true, false], none, 0, 0⟩
theorem o_lex_Scan : F_lex_Scan.Ok prog := ⟨Is.of (by kernel_rfl) (by kernel_rfl), by kernel_rfl, hint_sb sb_ok bo_ok, trivial, trivial, fun _ => by kernel_rfl⟩
theorem c_lex_Scan (N : Nat) : C_lex_Scan.Ok prog N := o_lex_Scan.give tb_ok hm N N ⟨c_fault_New N, c_lex_scanner_token_v558 N, trivial⟩ fun a r s h => by
  have l0 := s.loop 0 q_lex_Scan_0 (f_lex_Scan_0 N) N fun next0 h0 => by
    exact fun c v => s.seg 0 q_lex_Scan_0 [(0, .of q_lex_Scan_0 next0)] ⟨h0, trivial⟩ (by kernel_rfl) (by kernel_rfl)
  exact s.main [(0, .of q_lex_Scan_0 (r_lex_Scan_0 N))] ⟨l0, trivial⟩ (.trans (by kernel_rfl) h)
def F_fault_Code_n : Fn C_fault_Code_n := ⟨f22, [], ⟨[], [], sbf, bof⟩, [], [true], none, 0, 0⟩
theorem o_fault_Code_n : F_fault_Code_n.Ok prog := ⟨Is.of (by kernel_rfl) (by kernel_rfl), by kernel_rfl, hint_sb sb_ok bo_ok, trivial, trivial, fun _ => by kernel_rfl⟩
theorem c_fault_Code_n (N : Nat) : C_fault_Code_n.Ok prog N := o_fault_Code_n.give tb_ok hm N N trivial fun a r s h => by
  exact s.main [] trivial (.trans (by kernel_rfl) h)
def F_fault_At_n : Fn C_fault_At_n := ⟨f23, [], ⟨[], [], sbf, bof⟩, [C_fault_find_n], [true], none, 0, 0⟩
theorem o_fault_At_n : F_fault_At_n.Ok prog := ⟨Is.of (by kernel_rfl) (by kernel_rfl), by kernel_rfl, hint_sb sb_ok bo_ok, trivial, trivial, fun _ => by kernel_rfl⟩
theorem c_fault_At_n (N : Nat) : C_fault_At_n.Ok prog N := o_fault_At_n.give tb_ok hm N N ⟨c_fault_find_n N, trivial⟩ fun a r s h => by
  exact s.main [] trivial (.trans (by kernel_rfl) h)
def F_value_core : Fn C_value_core := ⟨f29, [], ⟨[], [], sbf, bof⟩, [], [false], none, 0, 0⟩
theorem o_value_core : F_value_core.Ok prog := ⟨Is.of (by kernel_rfl) (by kernel_rfl), by kernel_rfl, hint_sb sb_ok bo_ok, trivial, trivial, fun _ => by kernel_rfl⟩
theorem c_value_core (N : Nat) : C_value_core.Ok prog N := o_value_core.give tb_ok hm N N trivial fun a r s h => by
  exact s.main [] trivial (.trans (by kernel_rfl) h)
def F_value_number_whole : Fn C_value_number_whole := ⟨f99, [], ⟨[], [], sbf, bof⟩, [], [true], none, 0, 0⟩
theorem o_value_number_whole : F_value_number_whole.Ok prog := ⟨Is.of (by kernel_rfl) (by kernel_rfl), by kernel_rfl, hint_sb sb_ok bo_ok, trivial, trivial, fun _ => by kernel_rfl⟩
theorem c_value_number_whole (N : Nat) : C_value_number_whole.Ok prog N := o_value_number_whole.give tb_ok hm N N trivial fun a r s h => by
  exact s.main [] trivial (.trans (by kernel_rfl) h)
def F_value_flag_whole : Fn C_value_flag_whole := ⟨f100, [], ⟨[], [], sbf, bof⟩, [], [true], none, 0, 0⟩
theorem o_value_flag_whole : F_value_flag_whole.Ok prog := ⟨Is.of (by kernel_rfl) (by kernel_rfl), by kernel_rfl, hint_sb sb_ok bo_ok, trivial, trivial, fun _ => by kernel_rfl⟩
theorem c_value_flag_whole (N : Nat) : C_value_flag_whole.Ok prog N := o_value_flag_whole.give tb_ok hm N N trivial fun a r s h => by
  exact s.main [] trivial (.trans (by kernel_rfl) h)
def F_value_double_whole : Fn C_value_double_whole := ⟨f101, [], ⟨[], [], sbf, bof⟩, [], [true], none, 0, 0⟩
theorem o_value_double_whole : F_value_double_whole.Ok prog := ⟨Is.of (by kernel_rfl) (by kernel_rfl), by kernel_rfl, hint_sb sb_ok bo_ok, trivial, trivial, fun _ => by kernel_rfl⟩
theorem c_value_double_whole (N : Nat) : C_value_double_whole.Ok prog N := o_value_double_whole.give tb_ok hm N N trivial fun a r s h => by
  exact s.main [] trivial (.trans (by kernel_rfl) h)
def F_value_words_whole : Fn C_value_words_whole := ⟨f102, [], ⟨[], [], sbf, bof⟩, [], [true], none, 0, 0⟩
theorem o_value_words_whole : F_value_words_whole.Ok prog := ⟨Is.of (by kernel_rfl) (by kernel_rfl), by kernel_rfl, hint_sb sb_ok bo_ok, trivial, trivial, fun _ => by kernel_rfl⟩
theorem c_value_words_whole (N : Nat) : C_value_words_whole.Ok prog N := o_value_words_whole.give tb_ok hm N N trivial fun a r s h => by
  exact s.main [] trivial (.trans (by kernel_rfl) h)
def F_value_Check : Fn C_value_Check := ⟨f10, [], ⟨[], [], sbf, bof⟩, [C_value_core, C_value_number_whole, C_value_flag_whole, C_real_Clean, C_value_double_whole, C_value_words_whole], [true], none, 0, 0⟩
theorem o_value_Check : F_value_Check.Ok prog := ⟨Is.of (by kernel_rfl) (by kernel_rfl), by kernel_rfl, hint_sb sb_ok bo_ok, trivial, trivial, fun _ => by kernel_rfl⟩
theorem c_value_Check (N : Nat) : C_value_Check.Ok prog N := o_value_Check.give tb_ok hm N N ⟨c_value_core N, c_value_number_whole N, c_value_flag_whole N, c_real_Clean N, c_value_double_whole N, c_value_words_whole N, trivial⟩ fun a r s h => by
  exact s.main [] trivial (.trans (by kernel_rfl) h)
def F_lex_Literal : Fn C_lex_Literal := ⟨f9, [], ⟨[], [], sbf, bof⟩, [C_value_Check, C_lex_whole, C_lex_bits, C_lex_text], [true], none, 0, 0⟩
theorem o_lex_Literal : F_lex_Literal.Ok prog := ⟨Is.of (by kernel_rfl) (by kernel_rfl), by kernel_rfl, hint_sb sb_ok bo_ok, trivial, trivial, fun _ => by kernel_rfl⟩
theorem c_lex_Literal (N : Nat) : C_lex_Literal.Ok prog N := o_lex_Literal.give tb_ok hm N N ⟨c_value_Check N, c_lex_whole N, c_lex_bits N, c_lex_text N, trivial⟩ fun a r s h => by
  exact s.main [] trivial (.trans (by kernel_rfl) h)
def F_lex_Word : Fn C_lex_Word := ⟨f13, [], ⟨[], [], sbf, bof⟩, [C_lex_Literal], [true], none, 0, 0⟩
theorem o_lex_Word : F_lex_Word.Ok prog := ⟨Is.of (by kernel_rfl) (by kernel_rfl), by kernel_rfl, hint_sb sb_ok bo_ok, trivial, trivial, fun _ => by kernel_rfl⟩
theorem c_lex_Word (N : Nat) : C_lex_Word.Ok prog N := o_lex_Word.give tb_ok hm N N ⟨c_lex_Literal N, trivial⟩ fun a r s h => by
  exact s.main [] trivial (.trans (by kernel_rfl) h)
def F_lex_Print : Fn C_lex_Print := ⟨f17, [], ⟨[(15, 3)], [], sbf, bof⟩, [C_lex_Word, C_strings_Join], [true], none, 0, 0⟩
theorem o_lex_Print : F_lex_Print.Ok prog := ⟨Is.of (by kernel_rfl) (by kernel_rfl), by kernel_rfl, hint_sb sb_ok bo_ok, trivial, trivial, fun _ => by kernel_rfl⟩
theorem c_lex_Print (N : Nat) : C_lex_Print.Ok prog N := o_lex_Print.give tb_ok hm N N ⟨c_lex_Word N, c_strings_Join N, trivial⟩ fun a r s h => by
  have l0 := s.loop 0 q_lex_Print_0 (f_lex_Print_0 N) N fun next0 h0 => by
    exact fun c v => s.seg 0 q_lex_Print_0 [(0, .of q_lex_Print_0 next0)] ⟨h0, trivial⟩ (by kernel_rfl) (by kernel_rfl)
  exact s.main [(0, .of q_lex_Print_0 (r_lex_Print_0 N))] ⟨l0, trivial⟩ (.trans (by kernel_rfl) h)
def F_fault_Code_f : Fn C_fault_Code_f := ⟨f22, [], ⟨[], [], sbf, bof⟩, [C_fault_find_f], [true], none, 0, 0⟩
theorem o_fault_Code_f : F_fault_Code_f.Ok prog := ⟨Is.of (by kernel_rfl) (by kernel_rfl), by kernel_rfl, hint_sb sb_ok bo_ok, trivial, trivial, fun _ => by kernel_rfl⟩
theorem c_fault_Code_f (N : Nat) : C_fault_Code_f.Ok prog N := o_fault_Code_f.give tb_ok hm N N ⟨c_fault_find_f N, trivial⟩ fun a r s h => by
  exact s.main [] trivial (.trans (by kernel_rfl) h)
def F_fault_At_f : Fn C_fault_At_f := ⟨f23, [], ⟨[], [], sbf, bof⟩, [C_fault_find_f], [true], none, 0, 0⟩
theorem o_fault_At_f : F_fault_At_f.Ok prog := ⟨Is.of (by kernel_rfl) (by kernel_rfl), by kernel_rfl, hint_sb sb_ok bo_ok, trivial, trivial, fun _ => by kernel_rfl⟩
theorem c_fault_At_f (N : Nat) : C_fault_At_f.Ok prog N := o_fault_At_f.give tb_ok hm N N ⟨c_fault_find_f N, trivial⟩ fun a r s h => by
  exact s.main [] trivial (.trans (by kernel_rfl) h)
end
end Go.Proofs.YtmjmbhkohcdlpaaDoor.W
namespace Go.Proofs.YtmjmbhkohcdlpaaDoor.W
open Go
open Go.Proofs.Tryd
set_option maxRecDepth 1000000
set_option linter.unusedSimpArgs false
set_option linter.unusedVariables false
noncomputable section
def F_law10_awake : Fn C_law10_awake := ⟨f8, [], ⟨[], [], sbf, bof⟩, [C_lex_Scan, C_value_OfInt, C_value_OfText, C_fault_Code_n, C_fault_At_n, C_lex_Print, C_lex_Literal, C_value_OfReal, C_fault_Code_f, C_fault_At_f], [true], none, 0, 0⟩
theorem o_law10_awake : F_law10_awake.Ok prog := ⟨Is.of (by kernel_rfl) (by kernel_rfl), by kernel_rfl, hint_sb sb_ok bo_ok, trivial, trivial, fun _ => by kernel_rfl⟩
theorem c_law10_awake (N : Nat) : C_law10_awake.Ok prog N := o_law10_awake.give tb_ok hm N N ⟨c_lex_Scan N, c_value_OfInt N, c_value_OfText N, c_fault_Code_n N, c_fault_At_n N, c_lex_Print N, c_lex_Literal N, c_value_OfReal N, c_fault_Code_f N, c_fault_At_f N, trivial⟩ fun a r s h => by
  have h : (bif Nat.ble 64 N then some true else none) = some r := h
  cases hb : Nat.ble 64 N with
  | false => rw [hb] at h; cases h
  | true =>
    have hl := Nat.le_of_ble_eq_true hb
    obtain ⟨n, rfl⟩ : ∃ n, N = n + 64 := ⟨N - 64, by omega⟩
    exact s.main [] trivial (.trans (by kernel_rfl) h)
def F_law10_Own : Fn C_law10_Own := ⟨f15, [], ⟨[(33, 1)], [], sbf, bof⟩, [], [true], none, 0, 0⟩
theorem o_law10_Own : F_law10_Own.Ok prog := ⟨Is.of (by kernel_rfl) (by kernel_rfl), by kernel_rfl, hint_sb sb_ok bo_ok, trivial, trivial, fun _ => by kernel_rfl⟩
theorem c_law10_Own (N : Nat) : C_law10_Own.Ok prog N := o_law10_Own.give tb_ok hm N N trivial fun a r s h => by
  have l0 := s.loop 0 q_law10_Own_0 (f_law10_Own_0 N) N fun next0 h0 => by
    exact fun c v => s.seg 0 q_law10_Own_0 [(0, .of q_law10_Own_0 next0)] ⟨h0, trivial⟩ (by kernel_rfl) (by kernel_rfl)
  exact s.main [(0, .of q_law10_Own_0 (r_law10_Own_0 N))] ⟨l0, trivial⟩ (.trans (by kernel_rfl) h)
def F_ref03_Exp : Fn C_ref03_Exp := ⟨f79, [], ⟨[], [], sbf, bof⟩, [], [true], none, 0, 0⟩
theorem o_ref03_Exp : F_ref03_Exp.Ok prog := ⟨Is.of (by kernel_rfl) (by kernel_rfl), by kernel_rfl, hint_sb sb_ok bo_ok, trivial, trivial, fun _ => by kernel_rfl⟩
theorem c_ref03_Exp (N : Nat) : C_ref03_Exp.Ok prog N := o_ref03_Exp.give tb_ok hm N N trivial fun a r s h => by
  exact s.main [] trivial (.trans (by kernel_rfl) h)
def F_ref03_Frac : Fn C_ref03_Frac := ⟨f80, [], ⟨[], [], sbf, bof⟩, [], [true], none, 0, 0⟩
theorem o_ref03_Frac : F_ref03_Frac.Ok prog := ⟨Is.of (by kernel_rfl) (by kernel_rfl), by kernel_rfl, hint_sb sb_ok bo_ok, trivial, trivial, fun _ => by kernel_rfl⟩
theorem c_ref03_Frac (N : Nat) : C_ref03_Frac.Ok prog N := o_ref03_Frac.give tb_ok hm N N trivial fun a r s h => by
  exact s.main [] trivial (.trans (by kernel_rfl) h)
def F_ref03_Kind : Fn C_ref03_Kind := ⟨f73, [], ⟨[], [], sbf, bof⟩, [C_ref03_Exp, C_ref03_Frac], [true], none, 0, 0⟩
theorem o_ref03_Kind : F_ref03_Kind.Ok prog := ⟨Is.of (by kernel_rfl) (by kernel_rfl), by kernel_rfl, hint_sb sb_ok bo_ok, trivial, trivial, fun _ => by kernel_rfl⟩
theorem c_ref03_Kind (N : Nat) : C_ref03_Kind.Ok prog N := o_ref03_Kind.give tb_ok hm N N ⟨c_ref03_Exp N, c_ref03_Frac N, trivial⟩ fun a r s h => by
  exact s.main [] trivial (.trans (by kernel_rfl) h)
def F_ref03_Clean : Fn C_ref03_Clean := ⟨f55, [], ⟨[], [], sbf, bof⟩, [C_ref03_Kind], [true], none, 0, 0⟩
theorem o_ref03_Clean : F_ref03_Clean.Ok prog := ⟨Is.of (by kernel_rfl) (by kernel_rfl), by kernel_rfl, hint_sb sb_ok bo_ok, trivial, trivial, fun _ => by kernel_rfl⟩
theorem c_ref03_Clean (N : Nat) : C_ref03_Clean.Ok prog N := o_ref03_Clean.give tb_ok hm N N ⟨c_ref03_Kind N, trivial⟩ fun a r s h => by
  exact s.main [] trivial (.trans (by kernel_rfl) h)
def F_ref04_Check : Fn C_ref04_Check := ⟨f34, [], ⟨[], [], sbf, bof⟩, [C_ref03_Clean], [true], none, 0, 0⟩
theorem o_ref04_Check : F_ref04_Check.Ok prog := ⟨Is.of (by kernel_rfl) (by kernel_rfl), by kernel_rfl, hint_sb sb_ok bo_ok, trivial, trivial, fun _ => by kernel_rfl⟩
theorem c_ref04_Check (N : Nat) : C_ref04_Check.Ok prog N := o_ref04_Check.give tb_ok hm N N ⟨c_ref03_Clean N, trivial⟩ fun a r s h => by
  exact s.main [] trivial (.trans (by kernel_rfl) h)
def F_ref10_decimal : Fn C_ref10_decimal := ⟨f35, [], ⟨[], [], sbf, bof⟩, [], [true], none, 0, 0⟩
theorem o_ref10_decimal : F_ref10_decimal.Ok prog := ⟨Is.of (by kernel_rfl) (by kernel_rfl), by kernel_rfl, hint_sb sb_ok bo_ok, trivial, trivial, fun _ => by kernel_rfl⟩
theorem c_ref10_decimal (N : Nat) : C_ref10_decimal.Ok prog N := o_ref10_decimal.give tb_ok hm N N trivial fun a r s h => by
  have l0 := s.loop 0 q_ref10_decimal_0 (f_ref10_decimal_0 N) N fun next0 h0 => by
    exact fun c v => s.seg 0 q_ref10_decimal_0 [(0, .of q_ref10_decimal_0 next0)] ⟨h0, trivial⟩ (by kernel_rfl) (by kernel_rfl)
  exact s.main [(0, .of q_ref10_decimal_0 (r_ref10_decimal_0 N))] ⟨l0, trivial⟩ (.trans (by kernel_rfl) h)
def F_ref10_Literal : Fn C_ref10_Literal := ⟨f19, [], ⟨[], [], sbf, bof⟩, [C_ref04_Check, C_ref10_decimal], [true], none, 0, 0⟩
theorem o_ref10_Literal : F_ref10_Literal.Ok prog := ⟨Is.of (by kernel_rfl) (by kernel_rfl), by kernel_rfl, hint_sb sb_ok bo_ok, trivial, trivial, fun _ => by kernel_rfl⟩
theorem c_ref10_Literal (N : Nat) : C_ref10_Literal.Ok prog N := o_ref10_Literal.give tb_ok hm N N ⟨c_ref04_Check N, c_ref10_decimal N, trivial⟩ fun a r s h => by
  have l0 := s.loop 0 q_ref10_Literal_0 (f_ref10_Literal_0 N) N fun next0 h0 => by
    exact fun c v => s.seg 0 q_ref10_Literal_0 [(0, .of q_ref10_Literal_0 next0)] ⟨h0, trivial⟩ (by kernel_rfl) (by kernel_rfl)
  have l2 := s.loop 2 q_ref10_Literal_2 (f_ref10_Literal_2 N) N fun next2 h2 => by
    exact fun c v => s.seg 2 q_ref10_Literal_2 [(2, .of q_ref10_Literal_2 next2)] ⟨h2, trivial⟩ (by kernel_rfl) (by kernel_rfl)
  exact s.main [(0, .of q_ref10_Literal_0 (r_ref10_Literal_0 N)), (2, .of q_ref10_Literal_2 (r_ref10_Literal_2 N))] ⟨l0, l2, trivial⟩ (.trans (by kernel_rfl) h)
def F_ref10_Word : Fn C_ref10_Word := ⟨f16, [], ⟨[], [], sbf, bof⟩, [C_ref10_Literal], [true], none, 0, 0⟩
theorem o_ref10_Word : F_ref10_Word.Ok prog := ⟨Is.of (by kernel_rfl) (by kernel_rfl), by kernel_rfl, hint_sb sb_ok bo_ok, trivial, trivial, fun _ => by kernel_rfl⟩
theorem c_ref10_Word (N : Nat) : C_ref10_Word.Ok prog N := o_ref10_Word.give tb_ok hm N N ⟨c_ref10_Literal N, trivial⟩ fun a r s h => by
  exact s.main [] trivial (.trans (by kernel_rfl) h)
def F_ref10_Print : Fn C_ref10_Print := ⟨f18, [], ⟨[], [], sbf, bof⟩, [C_ref10_Word], [true], none, 0, 0⟩
theorem o_ref10_Print : F_ref10_Print.Ok prog := ⟨Is.of (by kernel_rfl) (by kernel_rfl), by kernel_rfl, hint_sb sb_ok bo_ok, trivial, trivial, fun _ => by kernel_rfl⟩
theorem c_ref10_Print (N : Nat) : C_ref10_Print.Ok prog N := o_ref10_Print.give tb_ok hm N N ⟨c_ref10_Word N, trivial⟩ fun a r s h => by
  have l0 := s.loop 0 q_ref10_Print_0 (f_ref10_Print_0 N) N fun next0 h0 => by
    exact fun c v => s.seg 0 q_ref10_Print_0 [(0, .of q_ref10_Print_0 next0)] ⟨h0, trivial⟩ (by kernel_rfl) (by kernel_rfl)
  exact s.main [(0, .of q_ref10_Print_0 (r_ref10_Print_0 N))] ⟨l0, trivial⟩ (.trans (by kernel_rfl) h)
def F_lex_Same_L1 : Fn C_lex_Same_L1 := ⟨f37, [], ⟨[], [], sbf, bof⟩, [], [true], none, 0, 0⟩
theorem o_lex_Same_L1 : F_lex_Same_L1.Ok prog := ⟨Is.of (by kernel_rfl) (by kernel_rfl), by kernel_rfl, hint_sb sb_ok bo_ok, trivial, trivial, fun _ => by kernel_rfl⟩
theorem c_lex_Same_L1 (N : Nat) : C_lex_Same_L1.Ok prog N := o_lex_Same_L1.give tb_ok hm N N trivial fun a r s h => by
  exact s.main [] trivial (.trans (by kernel_rfl) h)
def F_slices_EqualFunc_lex_Token_v798 : Fn C_slices_EqualFunc_lex_Token_v798 := ⟨f36, [], ⟨[], [], sbf, bof⟩, [C_lex_Same_L1], [true], none, 0, 0⟩
theorem o_slices_EqualFunc_lex_Token_v798 : F_slices_EqualFunc_lex_Token_v798.Ok prog := ⟨Is.of (by kernel_rfl) (by kernel_rfl), by kernel_rfl, hint_sb sb_ok bo_ok, trivial, trivial, fun _ => by kernel_rfl⟩
theorem c_slices_EqualFunc_lex_Token_v798 (N : Nat) : C_slices_EqualFunc_lex_Token_v798.Ok prog N := o_slices_EqualFunc_lex_Token_v798.give tb_ok hm N N ⟨c_lex_Same_L1 N, trivial⟩ fun a r s h => by
  have l0 := s.loop 0 q_slices_EqualFunc_lex_Token_v798_0 (f_slices_EqualFunc_lex_Token_v798_0 N) N fun next0 h0 => by
    exact fun c v => s.seg 0 q_slices_EqualFunc_lex_Token_v798_0 [(0, .of q_slices_EqualFunc_lex_Token_v798_0 next0)] ⟨h0, trivial⟩ (by kernel_rfl) (by kernel_rfl)
  exact s.main [(0, .of q_slices_EqualFunc_lex_Token_v798_0 (r_slices_EqualFunc_lex_Token_v798_0 N))] ⟨l0, trivial⟩ (.trans (by kernel_rfl) h)
def F_lex_Same : Fn C_lex_Same := ⟨f20, [], ⟨[], [], sbf, bof⟩, [C_slices_EqualFunc_lex_Token_v798], [true], none, 0, 0⟩
theorem o_lex_Same : F_lex_Same.Ok prog := ⟨Is.of (by kernel_rfl) (by kernel_rfl), by kernel_rfl, hint_sb sb_ok bo_ok, trivial, trivial, fun _ => by kernel_rfl⟩
theorem c_lex_Same (N : Nat) : C_lex_Same.Ok prog N := o_lex_Same.give tb_ok hm N N ⟨c_slices_EqualFunc_lex_Token_v798 N, trivial⟩ fun a r s h => by
  exact s.main [] trivial (.trans (by kernel_rfl) h)
def F_ref10_Same : Fn C_ref10_Same := ⟨f21, [], ⟨[], [], sbf, bof⟩, [], [true], none, 0, 0⟩
theorem o_ref10_Same : F_ref10_Same.Ok prog := ⟨Is.of (by kernel_rfl) (by kernel_rfl), by kernel_rfl, hint_sb sb_ok bo_ok, trivial, trivial, fun _ => by kernel_rfl⟩
theorem c_ref10_Same (N : Nat) : C_ref10_Same.Ok prog N := o_ref10_Same.give tb_ok hm N N trivial fun a r s h => by
  have l0 := s.loop 0 q_ref10_Same_0 (f_ref10_Same_0 N) N fun next0 h0 => by
    exact fun c v => s.seg 0 q_ref10_Same_0 [(0, .of q_ref10_Same_0 next0)] ⟨h0, trivial⟩ (by kernel_rfl) (by kernel_rfl)
  exact s.main [(0, .of q_ref10_Same_0 (r_ref10_Same_0 N))] ⟨l0, trivial⟩ (.trans (by kernel_rfl) h)
def F_law10_LexPrints : Fn C_law10_LexPrints := ⟨f4, [], ⟨[], [], sbf, bof⟩, [C_law10_Over, C_law10_awake, C_law04_Small, C_law10_Own, C_lex_Word, C_ref10_Word, C_lex_Print, C_ref10_Print, C_lex_Literal, C_ref10_Literal, C_lex_Same, C_ref10_Same], [true], none, 0, 0⟩
theorem o_law10_LexPrints : F_law10_LexPrints.Ok prog := ⟨Is.of (by kernel_rfl) (by kernel_rfl), by kernel_rfl, hint_sb sb_ok bo_ok, trivial, trivial, fun _ => by kernel_rfl⟩
theorem c_law10_LexPrints (N : Nat) : C_law10_LexPrints.Ok prog N := o_law10_LexPrints.give tb_ok hm N N ⟨c_law10_Over N, c_law10_awake N, c_law04_Small N, c_law10_Own N, c_lex_Word N, c_ref10_Word N, c_lex_Print N, c_ref10_Print N, c_lex_Literal N, c_ref10_Literal N, c_lex_Same N, c_ref10_Same N, trivial⟩ fun a r s h => by
  have l0 := s.loop 0 q_law10_LexPrints_0 (f_law10_LexPrints_0 N) N fun next0 h0 => by
    exact fun c v => s.seg 0 q_law10_LexPrints_0 [(0, .of q_law10_LexPrints_0 next0)] ⟨h0, trivial⟩ (by kernel_rfl) (by kernel_rfl)
  exact s.main [(0, .of q_law10_LexPrints_0 (r_law10_LexPrints_0 N))] ⟨l0, trivial⟩ (.trans (by kernel_rfl) h)
end
end Go.Proofs.YtmjmbhkohcdlpaaDoor.W
