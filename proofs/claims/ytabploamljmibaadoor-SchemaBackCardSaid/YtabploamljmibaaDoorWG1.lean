/- schema.Print, walked over the library's contracts of strings.Builder. No premise beyond what each theorem says. -/
import Derived.Test.YtabploamljmibaaDoorWA3
import Derived.Test.YtabploamljmibaaDoorProg
import Derived.Shelf.Strings.BuilderK
import Derived.WalkKit
import Derived.BigCall
import Derived.Lib.OthersKept
import Derived.Deep.RegionHeld3
set_option linter.all false
set_option linter.unusedSimpArgs false
set_option linter.unusedVariables false
namespace Go.Proofs.YtabploamljmibaaDoor.W
open Go
open Go.Proofs.Tryd
set_option maxRecDepth 1000000
set_option linter.unusedSimpArgs false
set_option linter.unusedVariables false
noncomputable section
structure schema_Field where
  Name : List UInt8
  Kind : Int
structure schema_Type where
  Name : List UInt8
  Fields : List schema_Field
structure value_Value where
  Kind : Int
  N : Int
  Bits : Int
  Text : List UInt8
def s_law06_Over_2 (N : Nat) (l : List schema_Type) (i : Int) (next0 : Int → Option Int) (next2 : Int → Option Int) (k : Int) : Option Int :=
  (ix l i).bind fun e3 =>
  bif (ltB k (List.length e3.Fields : Int)) then
   (ix l i).bind fun e4 =>
   (ix e4.Fields k).bind fun e5 =>
   bif (ltB 40 (List.length e5.Name : Int)) then
    some 1
   else
    gd (i64b (k + 1)) (
    next2 (k + 1))
  else
   gd (i64b (i + 1)) (
   next0 (i + 1))
def s_law06_Over_1 (N : Nat) (l : List schema_Type) (next0 : Int → Option Int) (i : Int) : Option Int :=
  bif (ltB i (List.length l : Int)) then
   (ix l i).bind fun e =>
   bif (ltB 40 (List.length e.Name : Int)) then
    some 1
   else
    (ix l i).bind fun e2 =>
    bif (ltB 12 (List.length e2.Fields : Int)) then
     some 1
    else
     lp1 (s_law06_Over_2 N l i next0) N 0
  else
   some 0
def s_law06_Over (N : Nat) (l : List schema_Type) : Option Int :=
  bif (ltB 12 (List.length l : Int)) then
   some 1
  else
   lp1 (s_law06_Over_1 N l) N 0
def s_stringslite_IndexByte (N : Nat) (s : List UInt8) (c : Int) : Option Int :=
  some (Lib.indexByte s (UInt8.ofNat (Int.toNat c)))
def s_stringslite_Index_v860 (N : Nat) (s : List UInt8) : Option Int :=
  bif (([10] : List UInt8) == s) then
   some 0
  else
   (s_stringslite_IndexByte N s 10).bind fun inde =>
   some inde
def s_stringslite_Cut_v860 (N : Nat) (s : List UInt8) : Option (List UInt8 × List UInt8 × Bool) :=
  (s_stringslite_Index_v860 N s).bind fun inde =>
  bif (leB 0 inde) then
   gd (leB 0 inde) (
   gd (leB inde (List.length s : Int)) (
   gd (i64b (inde + 1)) (
   gd (leB 0 (inde + 1)) (
   gd (leB (inde + 1) (List.length s : Int)) (
   some ((List.take (Int.toNat inde) s), (List.drop (Int.toNat (inde + 1)) s), true))))))
  else
   some (s, [], false)
def s_strings_Cut_v860 (N : Nat) (s : List UInt8) : Option (List UInt8 × List UInt8 × Bool) :=
  (s_stringslite_Cut_v860 N s).bind fun cut =>
  some (cut.1, cut.2.1, cut.2.2)
def s_strings_Count_v724 (N : Nat) (s : List UInt8) : Option Int :=
  some ((Lib.countByte s (UInt8.ofNat (Int.toNat 32)) : Nat) : Int)
def s_stringslite_Index_v724 (N : Nat) (s : List UInt8) : Option Int :=
  bif (([32] : List UInt8) == s) then
   some 0
  else
   (s_stringslite_IndexByte N s 32).bind fun inde =>
   some inde
def s_strings_Index_v724 (N : Nat) (s : List UInt8) : Option Int :=
  (s_stringslite_Index_v724 N s).bind fun inde =>
  some inde
def s_strings_genSplit_v997_1 (N : Nat) (sepSave : Int) (n2 : Int) (next0 : (List UInt8) → Int → (List (List UInt8)) → Option (List (List UInt8))) (s2 : List UInt8) (i : Int) (ys : List (List UInt8)) : Option (List (List UInt8)) :=
  bif (ltB i n2) then
   (s_strings_Index_v724 N s2).bind fun inde =>
   bif (ltB inde 0) then
    (ix ys i).bind fun e =>
    (ix ys i).bind fun e2 =>
    gd (i64b (i + 1)) (
    gd (leB 0 (i + 1)) (
    gd (leB (i + 1) (List.length (List.set ys (Int.toNat i) s2) : Int)) (
    some (List.take (Int.toNat (i + 1)) (List.set ys (Int.toNat i) s2)))))
   else
    gd (i64b (inde + sepSave)) (
    gd (leB 0 (inde + sepSave)) (
    gd (leB (inde + sepSave) (List.length s2 : Int)) (
    (ix ys i).bind fun e3 =>
    (ix ys i).bind fun e4 =>
    gd (i64b (inde + 1)) (
    gd (leB 0 (inde + 1)) (
    gd (leB (inde + 1) (List.length s2 : Int)) (
    gd (i64b (i + 1)) (
    next0 (List.drop (Int.toNat (inde + 1)) s2) (i + 1) (List.set ys (Int.toNat i) (List.take (Int.toNat (inde + sepSave)) s2)))))))))
  else
   (ix ys i).bind fun e5 =>
   (ix ys i).bind fun e6 =>
   gd (i64b (i + 1)) (
   gd (leB 0 (i + 1)) (
   gd (leB (i + 1) (List.length (List.set ys (Int.toNat i) s2) : Int)) (
   some (List.take (Int.toNat (i + 1)) (List.set ys (Int.toNat i) s2)))))
def s_strings_genSplit_v997 (N : Nat) (s : List UInt8) (sepSave : Int) (n : Int) : Option (List (List UInt8)) :=
  bif (n == 0) then
   some []
  else
   bif (ltB n 0) then
    (s_strings_Count_v724 N s).bind fun coun =>
    gd (i64b (coun + 1)) (
    gd (i64b ((List.length s : Int) + 1)) (
    gd (leB 0 (min (coun + 1) ((List.length s : Int) + 1))) (
    gd (leB (16 * (min (coun + 1) ((List.length s : Int) + 1))) 281474976710656) (
    gd (i64b ((min (coun + 1) ((List.length s : Int) + 1)) - 1)) (
    lp3 (s_strings_genSplit_v997_1 N sepSave ((min (coun + 1) ((List.length s : Int) + 1)) - 1)) N s 0 (List.replicate (Int.toNat (min (coun + 1) ((List.length s : Int) + 1))) []))))))
   else
    gd (i64b ((List.length s : Int) + 1)) (
    gd (leB 0 (min n ((List.length s : Int) + 1))) (
    gd (leB (16 * (min n ((List.length s : Int) + 1))) 281474976710656) (
    gd (i64b ((min n ((List.length s : Int) + 1)) - 1)) (
    lp3 (s_strings_genSplit_v997_1 N sepSave ((min n ((List.length s : Int) + 1)) - 1)) N s 0 (List.replicate (Int.toNat (min n ((List.length s : Int) + 1))) [])))))
def s_strings_Split_v724 (N : Nat) (s : List UInt8) : Option (List (List UInt8)) :=
  (s_strings_genSplit_v997 N s 0 (-1)).bind fun gens =>
  some gens
def s_stringslite_Index_v682 (N : Nat) (s : List UInt8) : Option Int :=
  bif (([58] : List UInt8) == s) then
   some 0
  else
   (s_stringslite_IndexByte N s 58).bind fun inde =>
   some inde
def s_stringslite_Cut_v682 (N : Nat) (s : List UInt8) : Option (List UInt8 × List UInt8 × Bool) :=
  (s_stringslite_Index_v682 N s).bind fun inde =>
  bif (leB 0 inde) then
   gd (leB 0 inde) (
   gd (leB inde (List.length s : Int)) (
   gd (i64b (inde + 1)) (
   gd (leB 0 (inde + 1)) (
   gd (leB (inde + 1) (List.length s : Int)) (
   some ((List.take (Int.toNat inde) s), (List.drop (Int.toNat (inde + 1)) s), true))))))
  else
   some (s, [], false)
def s_strings_Cut_v682 (N : Nat) (s : List UInt8) : Option (List UInt8 × List UInt8 × Bool) :=
  (s_stringslite_Cut_v682 N s).bind fun cut =>
  some (cut.1, cut.2.1, cut.2.2)
def s_value_Word (N : Nat) (kind : Int) : Option (List UInt8) :=
  bif (kind == 1) then
   some [105, 110, 116]
  else
   bif (kind == 2) then
    some [102, 108, 97, 103]
   else
    bif (kind == 3) then
     some [114, 101, 97, 108]
    else
     bif (kind == 4) then
      some [116, 101, 120, 116]
     else
      some []
def s_schema_kindOf_1 (N : Nat) (word : List UInt8) (next0 : Int → Option Int) (kind : Int) : Option Int :=
  bif (leB kind 4) then
   (s_value_Word N kind).bind fun word2 =>
   bif (word2 == word) then
    some kind
   else
    next0 (IntKind.u8.wrap (kind + 1))
  else
   some 0
def s_schema_kindOf (N : Nat) (word : List UInt8) : Option Int :=
  lp1 (s_schema_kindOf_1 N word) N 1
def s_schema_letter (N : Nat) (c : Int) : Option Bool :=
  bif (leB 97 c) then
   some (leB c 122)
  else
   some false
def s_schema_Reserved (N : Nat) (s : List UInt8) : Option Bool :=
  bif (s == [119, 105, 116, 104, 105, 110]) then
   bif (s == [119, 105, 116, 104, 105, 110]) then
    some true
   else
    some false
  else
   bif (s == [98, 121]) then
    bif (s == [98, 121]) then
     some true
    else
     some false
   else
    bif (s == [97, 110, 100]) then
     bif (s == [97, 110, 100]) then
      some true
     else
      some false
    else
     bif (s == [111, 114]) then
      bif (s == [111, 114]) then
       some true
      else
       some false
     else
      bif (s == [110, 111, 116]) then
       bif (s == [110, 111, 116]) then
        some true
       else
        some false
      else
       bif (s == [97, 110, 121]) then
        bif (s == [97, 110, 121]) then
         some true
        else
         some false
       else
        bif (s == [110, 101, 120, 116]) then
         bif (s == [110, 101, 120, 116]) then
          some true
         else
          some false
        else
         bif (s == [115, 116, 114, 105, 99, 116]) then
          bif (s == [115, 116, 114, 105, 99, 116]) then
           some true
          else
           some false
         else
          bif (s == [116, 114, 117, 101]) then
           bif (s == [116, 114, 117, 101]) then
            some true
           else
            some false
          else
           bif (s == [102, 97, 108, 115, 101]) then
            some true
           else
            some false
def s_schema_tail (N : Nat) (c : Int) : Option Bool :=
  (s_schema_letter N c).bind fun lett =>
  bif lett then
   some true
  else
   bif (leB 48 c) then
    bif (leB c 57) then
     some true
    else
     some (c == 95)
   else
    some (c == 95)
def s_schema_Name_1 (N : Nat) (s : List UInt8) (next0 : Int → Option Bool) (i : Int) : Option Bool :=
  bif (ltB i (List.length s : Int)) then
   (ix s i).bind fun c2 =>
   (s_schema_tail N (UInt8.toNat c2 : Int)).bind fun tail =>
   bif (!tail) then
    some false
   else
    gd (i64b (i + 1)) (
    next0 (i + 1))
  else
   some true
def s_schema_Name (N : Nat) (s : List UInt8) : Option Bool :=
  bif (s == []) then
   some false
  else
   bif (ltB 12 (List.length s : Int)) then
    some false
   else
    (ix s 0).bind fun c =>
    (s_schema_letter N (UInt8.toNat c : Int)).bind fun lett =>
    bif (!lett) then
     some false
    else
     (s_schema_Reserved N s).bind fun rese =>
     bif rese then
      some false
     else
      lp1 (s_schema_Name_1 N s) N 1
def s_schema_Type_Field_1 (N : Nat) (name : List UInt8) (x : List schema_Field) (x2 : Int) (next0 : Int → Option (Int × Int)) (x3 : Int) : Option (Int × Int) :=
  bif (ltB x3 x2) then
   (ix x x3).bind fun e =>
   bif (e.Name == name) then
    some (x3, e.Kind)
   else
    gd (i64b (x3 + 1)) (
    next0 (x3 + 1))
  else
   some ((-1), 0)
def s_schema_Type_Field (N : Nat) (t : schema_Type) (name : List UInt8) : Option (Int × Int) :=
  lp1 (s_schema_Type_Field_1 N name t.Fields (List.length t.Fields : Int)) N 0
def s_schema_Type_check_1 (N : Nat) (x : List schema_Field) (x2 : Int) (y : List UInt8) (y2 : List schema_Field) (next0 : Int → Option Int) (x3 : Int) : Option Int :=
  bif (ltB x3 x2) then
   (ix x x3).bind fun e =>
   (s_schema_Type_Field N (schema_Type.mk y y2) e.Name).bind fun fiel =>
   (s_schema_Name N e.Name).bind fun name2 =>
   bif (!name2) then
    some 4
   else
    (s_value_Word N e.Kind).bind fun word =>
    bif (word == []) then
     some 11
    else
     bif (fiel.1 != x3) then
      some 21
     else
      gd (i64b (x3 + 1)) (
      next0 (x3 + 1))
  else
   some 0
def s_schema_Type_check (N : Nat) (t : schema_Type) : Option Int :=
  (s_schema_Name N t.Name).bind fun name =>
  bif (!name) then
   some 4
  else
   bif (ltB 6 (List.length t.Fields : Int)) then
    some 5
   else
    lp1 (s_schema_Type_check_1 N t.Fields (List.length t.Fields : Int) t.Name t.Fields) N 0
abbrev s_slices_Clone_schema_Field (N : Nat) (s : List schema_Field) : Option (List schema_Field) := shClone 24 s
def s_schema_Find_1 (N : Nat) (name : List UInt8) (l : List schema_Type) (x : Int) (next0 : Int → Option (schema_Type × Bool)) (x2 : Int) : Option (schema_Type × Bool) :=
  bif (ltB x2 x) then
   (ix l x2).bind fun e =>
   bif (e.Name == name) then
    (s_slices_Clone_schema_Field N e.Fields).bind fun clon =>
    some ((schema_Type.mk name clon), true)
   else
    gd (i64b (x2 + 1)) (
    next0 (x2 + 1))
  else
   some ((schema_Type.mk [] []), false)
def s_schema_Find (N : Nat) (l : List schema_Type) (name : List UInt8) : Option (schema_Type × Bool) :=
  lp1 (s_schema_Find_1 N name l (List.length l : Int)) N 0
def s_schema_Check_1 (N : Nat) (l : List schema_Type) (x : List schema_Type) (x2 : Int) (next0 : Int → Option Int) (x3 : Int) : Option Int :=
  bif (ltB x3 x2) then
   (ix x x3).bind fun e =>
   (s_schema_Type_check N e).bind fun chec =>
   bif (chec != 0) then
    some chec
   else
    gd (leB 0 x3) (
    gd (leB x3 (List.length l : Int)) (
    (s_schema_Find N (List.take (Int.toNat x3) l) e.Name).bind fun find =>
    bif find.2 then
     some 21
    else
     gd (i64b (x3 + 1)) (
     next0 (x3 + 1))))
  else
   some 0
def s_schema_Check (N : Nat) (l : List schema_Type) : Option Int :=
  bif (ltB 8 (List.length l : Int)) then
   some 5
  else
   lp1 (s_schema_Check_1 N l l (List.length l : Int)) N 0
def s_schema_Parse_2 (N : Nat) (rest : List UInt8) (ended : Bool) (x : List (List UInt8)) (x2 : Int) (e : List UInt8) (next0 : (List UInt8) → (List schema_Type) → Option (List schema_Type × Int)) (next2 : Int → (List schema_Type) → (List schema_Field) → Option (List schema_Type × Int)) (x3 : Int) (ys2 : List schema_Type) (ys3 : List schema_Field) : Option (List schema_Type × Int) :=
  bif (ltB x3 x2) then
   (ix x x3).bind fun e2 =>
   (s_strings_Cut_v682 N e2).bind fun cut2 =>
   (s_schema_kindOf N cut2.2.1).bind fun kind =>
   bif (!cut2.2.2) then
    some ([], 4)
   else
    bif (kind == 0) then
     some ([], 4)
    else
     gd (Nat.ble ((List.length ys3 + 1) * 24) 140737488355328) (
     gd (i64b (x3 + 1)) (
     next2 (x3 + 1) ys2 (ys3 ++ [(schema_Field.mk cut2.1 kind)])))
  else
   bif (!ended) then
    some ([], 4)
   else
    gd (Nat.ble ((List.length ys2 + 1) * 40) 140737488355328) (
    next0 rest (ys2 ++ [(schema_Type.mk e ys3)]))
def s_schema_Parse_1 (N : Nat) (next0 : (List UInt8) → (List schema_Type) → Option (List schema_Type × Int)) (s2 : List UInt8) (ys : List schema_Type) : Option (List schema_Type × Int) :=
  bif (!(s2 == [])) then
   (s_strings_Cut_v860 N s2).bind fun cut =>
   (s_strings_Split_v724 N cut.1).bind fun spli =>
   (ix spli 0).bind fun e =>
   gd (leB 1 (List.length spli : Int)) (
   lp3 (s_schema_Parse_2 N cut.2.1 cut.2.2 (List.drop 1 spli) (List.length (List.drop 1 spli) : Int) e next0) N 0 ys [])
  else
   (s_schema_Check N ys).bind fun chec =>
   bif (chec != 0) then
    some ([], chec)
   else
    some (ys, 0)
def s_schema_Parse (N : Nat) (s : List UInt8) : Option (List schema_Type × Int) :=
  lp2 (s_schema_Parse_1 N) N s []
def s_value_OfInt (N : Nat) (n : Int) : Option value_Value :=
  some (value_Value.mk 1 (max (-4611686018427387904) (min n 4611686018427387904)) 0 [])
def s_value_OfText (N : Nat) (s : List UInt8) : Option value_Value :=
  bif (ltB 24 (List.length s : Int)) then
   gd (leB 24 (List.length s : Int)) (
   some (value_Value.mk 4 0 0 (List.take 24 s)))
  else
   some (value_Value.mk 4 0 0 s)
def s_value_core (N : Nat) (v : value_Value) : Option (Int ⊕ Int ⊕ Int ⊕ (List UInt8) ⊕ Unit) :=
  bif (v.Kind == 1) then
   some (Sum.inl v.N)
  else
   bif (v.Kind == 2) then
    some (Sum.inr (Sum.inl v.N))
   else
    bif (v.Kind == 3) then
     some (Sum.inr (Sum.inr (Sum.inl v.Bits)))
    else
     bif (v.Kind == 4) then
      some (Sum.inr (Sum.inr (Sum.inr (Sum.inl v.Text))))
     else
      some (Sum.inr (Sum.inr (Sum.inr (Sum.inr ()))))
def s_value_number_whole (N : Nat) (n : Int) : Option value_Value :=
  some (value_Value.mk 1 n 0 [])
def s_value_flag_whole (N : Nat) (n : Int) : Option value_Value :=
  some (value_Value.mk 2 n 0 [])
def s_real_of (N : Nat) (u : Int) : Option Nat :=
  some (Int.toNat u)
def s_real_Clean (N : Nat) (u : Int) : Option Int :=
  (s_real_of N u).bind fun of =>
  bif (fcmpB .neq .f64 of of) then
   some 9221120237041090560
  else
   some u
def s_value_double_whole (N : Nat) (u : Int) : Option value_Value :=
  some (value_Value.mk 3 0 u [])
def s_value_words_whole (N : Nat) (s : List UInt8) : Option value_Value :=
  some (value_Value.mk 4 0 0 s)
def s_value_Check (N : Nat) (v : value_Value) : Option Int :=
  (s_value_core N v).bind fun x => Sum.elim
  (fun core =>
   bif (ltB core (-4611686018427387904)) then
    some 8
   else
    bif (ltB 4611686018427387904 core) then
     some 8
    else
     (s_value_number_whole N core).bind fun whol =>
     bif (!((whol.Kind == v.Kind) && ((whol.N == v.N) && ((whol.Bits == v.Bits) && (whol.Text == v.Text))))) then
      some 2
     else
      some 0)
  (Sum.elim
  (fun core2 =>
   bif (core2 != 0) then
    bif (core2 != 1) then
     some 8
    else
     (s_value_flag_whole N core2).bind fun whol2 =>
     bif (!((whol2.Kind == v.Kind) && ((whol2.N == v.N) && ((whol2.Bits == v.Bits) && (whol2.Text == v.Text))))) then
      some 2
     else
      some 0
   else
    (s_value_flag_whole N core2).bind fun whol3 =>
    bif (!((whol3.Kind == v.Kind) && ((whol3.N == v.N) && ((whol3.Bits == v.Bits) && (whol3.Text == v.Text))))) then
     some 2
    else
     some 0)
  (Sum.elim
  (fun core3 =>
   (s_real_Clean N core3).bind fun clea =>
   bif (clea != core3) then
    some 4
   else
    (s_value_double_whole N core3).bind fun whol4 =>
    bif (!((whol4.Kind == v.Kind) && ((whol4.N == v.N) && ((whol4.Bits == v.Bits) && (whol4.Text == v.Text))))) then
     some 2
    else
     some 0)
  (Sum.elim
  (fun core4 =>
   bif (ltB 24 (List.length core4 : Int)) then
    some 5
   else
    (s_value_words_whole N core4).bind fun whol5 =>
    bif (!((whol5.Kind == v.Kind) && ((whol5.N == v.N) && ((whol5.Bits == v.Bits) && (whol5.Text == v.Text))))) then
     some 2
    else
     some 0)
  (fun core5 =>
   some 11)))) x
def s_schema_Fits_1 (N : Nat) (vals : List value_Value) (x : Int) (y2 : List schema_Field) (next0 : Int → Option Int) (x2 : Int) : Option Int :=
  bif (ltB x2 x) then
   (ix vals x2).bind fun e =>
   (s_value_Check N e).bind fun chec =>
   bif (chec != 0) then
    some chec
   else
    (ix y2 x2).bind fun e2 =>
    bif (e.Kind != e2.Kind) then
     some 19
    else
     gd (i64b (x2 + 1)) (
     next0 (x2 + 1))
  else
   some 0
def s_schema_Fits (N : Nat) (t : schema_Type) (vals : List value_Value) : Option Int :=
  bif ((List.length vals : Int) != (List.length t.Fields : Int)) then
   some 5
  else
   lp1 (s_schema_Fits_1 N vals (List.length vals : Int) t.Fields) N 0
def wordB (k : Int) : List UInt8 := if k = 1 then [105, 110, 116] else if k = 2 then [102, 108, 97, 103] else if k = 3 then [114, 101, 97, 108] else if k = 4 then [116, 101, 120, 116] else []
def prF (f : schema_Field) : List UInt8 := [32] ++ f.Name ++ [58] ++ wordB f.Kind
def prT (t : schema_Type) : List UInt8 := t.Name ++ t.Fields.flatMap prF ++ [10]
def prS (l : List schema_Type) : List UInt8 := l.flatMap prT
def s_schema_Print (N : Nat) (l : List schema_Type) : Option (List UInt8) := gd (Nat.ble (prS l).length 140737488355328) (some (prS l))
def s_law06_awake (N : Nat) : Option Bool :=
  (s_schema_Parse N [98, 117, 121, 32, 112, 114, 105, 99, 101, 58, 105, 110, 116, 32, 119, 104, 111, 58, 116, 101, 120, 116, 10, 115, 116, 111, 112, 10]).bind fun pars =>
  (s_schema_Parse N [98, 117, 121, 32, 112, 114, 105, 99, 101, 58, 105, 110, 116, 32, 112, 114, 105, 99, 101, 58, 102, 108, 97, 103, 10]).bind fun pars2 =>
  (s_schema_Parse N [98, 117, 121]).bind fun pars3 =>
  bif (pars.2 != 0) then
   some false
  else
   bif ((List.length pars.1 : Int) != 2) then
    some false
   else
    (ix pars.1 0).bind fun e =>
    bif ((List.length e.Fields : Int) != 2) then
     some false
    else
     (ix pars.1 1).bind fun e2 =>
     bif ((List.length e2.Fields : Int) != 0) then
      some false
     else
      (ix pars.1 0).bind fun e3 =>
      (s_schema_Type_Field N e3 [119, 104, 111]).bind fun fiel =>
      (s_schema_Find N pars.1 [115, 101, 108, 108]).bind fun find =>
      bif (pars2.2 == 21) then
       bif (pars3.2 == 4) then
        bif (fiel.1 == 1) then
         bif (fiel.2 == 4) then
          bif (!find.2) then
           (ix pars.1 0).bind fun e4 =>
           (s_value_OfInt N 1).bind fun ofin =>
           (s_value_OfText N [97]).bind fun ofte =>
           (s_schema_Fits N e4 [ofin, ofte]).bind fun fits =>
           bif (fits == 0) then
            (ix pars.1 0).bind fun e5 =>
            (s_value_OfText N [97]).bind fun ofte2 =>
            (s_value_OfInt N 1).bind fun ofin2 =>
            (s_schema_Fits N e5 [ofte2, ofin2]).bind fun fits2 =>
            bif (fits2 == 19) then
             (ix pars.1 1).bind fun e6 =>
             (s_schema_Fits N e6 []).bind fun fits3 =>
             bif (fits3 == 0) then
              (s_schema_Print N pars.1).bind fun prin =>
              bif (prin == [98, 117, 121, 32, 112, 114, 105, 99, 101, 58, 105, 110, 116, 32, 119, 104, 111, 58, 116, 101, 120, 116, 10, 115, 116, 111, 112, 10]) then
               (s_schema_Name N [97, 95, 49]).bind fun name =>
               bif name then
                (s_schema_Name N [119, 105, 116, 104, 105, 110]).bind fun name2 =>
                bif (!name2) then
                 (s_schema_Reserved N [98, 121]).bind fun rese =>
                 bif rese then
                  some true
                 else
                  some false
                else
                 some false
               else
                some false
              else
               some false
             else
              some false
            else
             some false
           else
            some false
          else
           some false
         else
          some false
        else
         some false
       else
        some false
      else
       some false
def s_law06_Own_2 (N : Nat) (l : List schema_Type) (i : Int) (y : List UInt8) (next0 : Int → (List schema_Type) → Option (List schema_Type)) (next2 : Int → (List schema_Type) → (List schema_Field) → Option (List schema_Type)) (k : Int) (ys2 : List schema_Type) (ys3 : List schema_Field) : Option (List schema_Type) :=
  (ix l i).bind fun e2 =>
  bif (ltB k (List.length e2.Fields : Int)) then
   (ix l i).bind fun e3 =>
   (ix e3.Fields k).bind fun e4 =>
   gd (Nat.ble ((List.length ys3 + 1) * 24) 140737488355328) (
   gd (i64b (k + 1)) (
   next2 (k + 1) ys2 (ys3 ++ [e4])))
  else
   gd (Nat.ble ((List.length ys2 + 1) * 40) 140737488355328) (
   gd (i64b (i + 1)) (
   next0 (i + 1) (ys2 ++ [(schema_Type.mk y ys3)])))
def s_law06_Own_1 (N : Nat) (l : List schema_Type) (next0 : Int → (List schema_Type) → Option (List schema_Type)) (i : Int) (ys : List schema_Type) : Option (List schema_Type) :=
  bif (ltB i (List.length l : Int)) then
   (ix l i).bind fun e =>
   lp3 (s_law06_Own_2 N l i e.Name next0) N 0 ys []
  else
   some ys
def s_law06_Own (N : Nat) (l : List schema_Type) : Option (List schema_Type) :=
  lp2 (s_law06_Own_1 N l) N 0 []
def s_slices_Equal_schema_Field_1 (N : Nat) (s1 : List schema_Field) (s2 : List schema_Field) (x : Int) (next0 : Int → Option Bool) (x2 : Int) : Option Bool :=
  bif (ltB x2 x) then
   (ix s1 x2).bind fun e =>
   (ix s2 x2).bind fun e2 =>
   bif (!((e.Name == e2.Name) && (e.Kind == e2.Kind))) then
    some false
   else
    gd (i64b (x2 + 1)) (
    next0 (x2 + 1))
  else
   some true
def s_slices_Equal_schema_Field (N : Nat) (s1 : List schema_Field) (s2 : List schema_Field) : Option Bool :=
  bif ((List.length s1 : Int) != (List.length s2 : Int)) then
   some false
  else
   lp1 (s_slices_Equal_schema_Field_1 N s1 s2 (List.length s1 : Int)) N 0
def s_schema_Same_L1 (N : Nat) (x : schema_Type) (y : schema_Type) : Option Bool :=
  bif (x.Name == y.Name) then
   (s_slices_Equal_schema_Field N x.Fields y.Fields).bind fun fiel =>
   some fiel
  else
   some false
def s_slices_EqualFunc_schema_Type_v029_1 (N : Nat) (s2 : List schema_Type) (s1 : List schema_Type) (x : Int) (next0 : Int → Option Bool) (x2 : Int) : Option Bool :=
  bif (ltB x2 x) then
   (ix s1 x2).bind fun e =>
   (ix s2 x2).bind fun e2 =>
   (s_schema_Same_L1 N e e2).bind fun l =>
   bif (!l) then
    some false
   else
    gd (i64b (x2 + 1)) (
    next0 (x2 + 1))
  else
   some true
def s_slices_EqualFunc_schema_Type_v029 (N : Nat) (s1 : List schema_Type) (s2 : List schema_Type) : Option Bool :=
  bif ((List.length s1 : Int) != (List.length s2 : Int)) then
   some false
  else
   lp1 (s_slices_EqualFunc_schema_Type_v029_1 N s2 s1 (List.length s1 : Int)) N 0
def s_schema_Same (N : Nat) (va : List schema_Type) (b : List schema_Type) : Option Bool :=
  (s_slices_EqualFunc_schema_Type_v029 N va b).bind fun type =>
  some type
def s_law06_SchemaBack (N : Nat) (l : List schema_Type) (s : List UInt8) : Option Bool :=
  (s_law06_Over N l).bind fun over =>
  bif (ltB 0 over) then
   (s_law06_awake N).bind fun awak =>
   some awak
  else
   bif (ltB 600 (List.length s : Int)) then
    (s_law06_awake N).bind fun awak2 =>
    some awak2
   else
    (s_schema_Parse N s).bind fun pars =>
    bif (pars.2 == 0) then
     (s_schema_Print N pars.1).bind fun prin =>
     bif (!(prin == s)) then
      some false
     else
      (s_schema_Check N pars.1).bind fun chec =>
      bif (chec != 0) then
       some false
      else
       bif (pars.2 != 0) then
        bif ((List.length pars.1 : Int) != 0) then
         some false
        else
         (s_law06_Own N l).bind fun own =>
         (s_schema_Print N own).bind fun prin2 =>
         (s_schema_Parse N prin2).bind fun pars2 =>
         (s_schema_Check N own).bind fun chec2 =>
         bif (chec2 != 0) then
          (s_law06_awake N).bind fun awak3 =>
          some awak3
         else
          bif (pars2.2 == 0) then
           (s_schema_Same N pars2.1 own).bind fun same =>
           bif same then
            (s_schema_Print N own).bind fun prin3 =>
            bif (pars.2 == 0) then
             (s_schema_Same N pars.1 own).bind fun same2 =>
             bif ((prin3 == s) == same2) then
              (s_law06_awake N).bind fun awak4 =>
              some awak4
             else
              some false
            else
             bif ((prin3 == s) == false) then
              (s_law06_awake N).bind fun awak5 =>
              some awak5
             else
              some false
           else
            some false
          else
           some false
       else
        (s_law06_Own N l).bind fun own2 =>
        (s_schema_Print N own2).bind fun prin4 =>
        (s_schema_Parse N prin4).bind fun pars3 =>
        (s_schema_Check N own2).bind fun chec3 =>
        bif (chec3 != 0) then
         (s_law06_awake N).bind fun awak6 =>
         some awak6
        else
         bif (pars3.2 == 0) then
          (s_schema_Same N pars3.1 own2).bind fun same3 =>
          bif same3 then
           (s_schema_Print N own2).bind fun prin5 =>
           bif (pars.2 == 0) then
            (s_schema_Same N pars.1 own2).bind fun same4 =>
            bif ((prin5 == s) == same4) then
             (s_law06_awake N).bind fun awak7 =>
             some awak7
            else
             some false
           else
            bif ((prin5 == s) == false) then
             (s_law06_awake N).bind fun awak8 =>
             some awak8
            else
             some false
          else
           some false
         else
          some false
    else
     bif (pars.2 != 0) then
      bif ((List.length pars.1 : Int) != 0) then
       some false
      else
       (s_law06_Own N l).bind fun own3 =>
       (s_schema_Print N own3).bind fun prin6 =>
       (s_schema_Parse N prin6).bind fun pars4 =>
       (s_schema_Check N own3).bind fun chec4 =>
       bif (chec4 != 0) then
        (s_law06_awake N).bind fun awak9 =>
        some awak9
       else
        bif (pars4.2 == 0) then
         (s_schema_Same N pars4.1 own3).bind fun same5 =>
         bif same5 then
          (s_schema_Print N own3).bind fun prin7 =>
          bif (pars.2 == 0) then
           (s_schema_Same N pars.1 own3).bind fun same6 =>
           bif ((prin7 == s) == same6) then
            (s_law06_awake N).bind fun awak10 =>
            some awak10
           else
            some false
          else
           bif ((prin7 == s) == false) then
            (s_law06_awake N).bind fun awak11 =>
            some awak11
           else
            some false
         else
          some false
        else
         some false
     else
      (s_law06_Own N l).bind fun own4 =>
      (s_schema_Print N own4).bind fun prin8 =>
      (s_schema_Parse N prin8).bind fun pars5 =>
      (s_schema_Check N own4).bind fun chec5 =>
      bif (chec5 != 0) then
       (s_law06_awake N).bind fun awak12 =>
       some awak12
      else
       bif (pars5.2 == 0) then
        (s_schema_Same N pars5.1 own4).bind fun same7 =>
        bif same7 then
         (s_schema_Print N own4).bind fun prin9 =>
         bif (pars.2 == 0) then
          (s_schema_Same N pars.1 own4).bind fun same8 =>
          bif ((prin9 == s) == same8) then
           (s_law06_awake N).bind fun awak13 =>
           some awak13
          else
           some false
         else
          bif ((prin9 == s) == false) then
           (s_law06_awake N).bind fun awak14 =>
           some awak14
          else
           some false
        else
         some false
       else
        some false
end
end Go.Proofs.YtabploamljmibaaDoor.W
namespace Go.Proofs.YtabploamljmibaaDoor.W
open Go
open Go.Proofs.Tryd
set_option maxRecDepth 1000000
set_option linter.unusedSimpArgs false
set_option linter.unusedVariables false
noncomputable section
theorem hm : prog.follows .mixedOrders = true := by kernel_rfl
def eA0 (x : schema_Field) : AV := .agg [.v (.string (bs x.Name)), .v (.int .u8 x.Kind)]
def eA1 (x : schema_Type) : AV := .agg [.v (.string (bs x.Name)), .sl 2 (List.map eA0 x.Fields)]
def eA2 (x : List UInt8) : AV := .v (.string (bs x))
def eA3 (x : value_Value) : AV := .agg [.v (.int .u8 x.Kind), .v (.int .i64 x.N), .v (.int .u64 x.Bits), .v (.string (bs x.Text))]
abbrev T : Nat → Type
  | 0 => schema_Field
  | 1 => schema_Type
  | 2 => List UInt8
  | 3 => value_Value
  | _ => Unit
def enc : (i : Nat) → T i → List (BV T)
  | 0 => fun (x : schema_Field) => [.str x.Name, .int .u8 x.Kind]
  | 1 => fun (x : schema_Type) => [.str x.Name, .sl 0 x.Fields]
  | 2 => fun (x : List UInt8) => [.str x]
  | 3 => fun (x : value_Value) => [.int .u8 x.Kind, .int .i64 x.N, .int .u64 x.Bits, .str x.Text]
  | _ => fun _ => []
def dec0 : List (BV T) → Option schema_Field := P1 asStr fun a0 => P1 (asInt .u8) fun a1 => P0 (⟨a0, a1⟩ : schema_Field)
def dec1 : List (BV T) → Option schema_Type := P1 asStr fun a0 => P1 (asRow 0) fun a1 => P0 (⟨a0, a1⟩ : schema_Type)
def dec2 : List (BV T) → Option (List UInt8) := P1 asStr fun a0 => P0 (a0 : List UInt8)
def dec3 : List (BV T) → Option value_Value := P1 (asInt .u8) fun a0 => P1 (asInt .i64) fun a1 => P1 (asInt .u64) fun a2 => P1 asStr fun a3 => P0 (⟨a0, a1, a2, a3⟩ : value_Value)
def dec : (i : Nat) → List (BV T) → Option (T i)
  | 0 => dec0
  | 1 => dec1
  | 2 => dec2
  | 3 => dec3
  | _ => fun _ => none
def eA : (i : Nat) → T i → AV
  | 0 => eA0
  | 1 => eA1
  | 2 => eA2
  | 3 => eA3
  | _ => fun _ => .agg []
def tb : Tb T := ⟨fun i => [2, 2, 1, 4].getD i 0, fun i => [true, true, false, true].getD i true, eA, enc, dec⟩
def sbf (k : Nat) : Option (List UInt8 → (i : Nat) × List (T i)) := none
theorem sb_ok (k : Nat) (f : List UInt8 → (i : Nat) × List (T i)) (s : List UInt8) (h : sbf k = some f) : k = 1 ∧ tb.k (f s).1 = 1 ∧ (f s).2.map (tb.eA (f s).1) = s.map byteV := by cases h
theorem dec0_ok (cs : List (BV T)) (x : schema_Field) (h : dec0 cs = some x) : LWs (BV.avs tb cs) (eA0 x).cells := by
  obtain ⟨c0, r0, a0, rfl, h0, h⟩ := P1_some h
  obtain ⟨c1, r1, a1, rfl, h1, h⟩ := P1_some h
  obtain ⟨rfl, rfl⟩ := P0_some h
  exact .cons (asStr_lw h0) (.cons (asInt_lw h1) (.nil))
theorem dec1_ok (cs : List (BV T)) (x : schema_Type) (h : dec1 cs = some x) : LWs (BV.avs tb cs) (eA1 x).cells := by
  obtain ⟨c0, r0, a0, rfl, h0, h⟩ := P1_some h
  obtain ⟨c1, r1, a1, rfl, h1, h⟩ := P1_some h
  obtain ⟨rfl, rfl⟩ := P0_some h
  exact .cons (asStr_lw h0) (.cons (asRow_ok h1) (.nil))
theorem dec2_ok (cs : List (BV T)) (x : List UInt8) (h : dec2 cs = some x) : LWs (BV.avs tb cs) (eA2 x).cells := by
  obtain ⟨c0, r0, a0, rfl, h0, h⟩ := P1_some h
  obtain ⟨rfl, rfl⟩ := P0_some h
  exact .cons (asStr_lw h0) (.nil)
theorem dec3_ok (cs : List (BV T)) (x : value_Value) (h : dec3 cs = some x) : LWs (BV.avs tb cs) (eA3 x).cells := by
  obtain ⟨c0, r0, a0, rfl, h0, h⟩ := P1_some h
  obtain ⟨c1, r1, a1, rfl, h1, h⟩ := P1_some h
  obtain ⟨c2, r2, a2, rfl, h2, h⟩ := P1_some h
  obtain ⟨c3, r3, a3, rfl, h3, h⟩ := P1_some h
  obtain ⟨rfl, rfl⟩ := P0_some h
  exact .cons (asInt_lw h0) (.cons (asInt_lw h1) (.cons (asInt_lw h2) (.cons (asStr_lw h3) (.nil))))
theorem tb_ok : tb.Ok where
  enc := fun i x => match i with | 0 => (by kernel_rfl) | 1 => (by kernel_rfl) | 2 => (by kernel_rfl) | 3 => (by kernel_rfl) | n + 4 => (by kernel_rfl)
  len := fun i x => match i with | 0 => (by kernel_rfl) | 1 => (by kernel_rfl) | 2 => (by kernel_rfl) | 3 => (by kernel_rfl) | n + 4 => (by kernel_rfl)
  one := fun i x => match i with | 0 => (by kernel_rfl) | 1 => (by kernel_rfl) | 2 => (by kernel_rfl) | 3 => (by kernel_rfl) | n + 4 => (by kernel_rfl)
  dat := fun i x => match i with | 0 => (by kernel_rfl) | 1 => (by kernel_rfl) | 2 => (by kernel_rfl) | 3 => (by kernel_rfl) | n + 4 => (by kernel_rfl)
  sg := fun i x h => match i with | 0 => (by cases h) | 1 => (by cases h) | 2 => (by kernel_rfl) | 3 => (by cases h) | n + 4 => (by cases h)
  ag := fun i x h => match i with | 0 => (by kernel_rfl) | 1 => (by kernel_rfl) | 2 => (by cases h) | 3 => (by kernel_rfl) | n + 4 => (by kernel_rfl)
  dec := fun i => match i with | 0 => dec0_ok | 1 => dec1_ok | 2 => dec2_ok | 3 => dec3_ok | n + 4 => fun cs x h => (by cases h)
theorem is_law06_Over : Is prog 6 f6.ntmps (resOf prog f6) (bd prog f6) := Is.of (by kernel_rfl) (by kernel_rfl)
theorem is_stringslite_IndexByte : Is prog 64 f64.ntmps (resOf prog f64) (bd prog f64) := Is.of (by kernel_rfl) (by kernel_rfl)
theorem is_stringslite_Index : Is prog 57 f57.ntmps (resOf prog f57) (bd prog f57) := Is.of (by kernel_rfl) (by kernel_rfl)
theorem is_stringslite_Cut : Is prog 52 f52.ntmps (resOf prog f52) (bd prog f52) := Is.of (by kernel_rfl) (by kernel_rfl)
theorem is_strings_Cut : Is prog 45 f45.ntmps (resOf prog f45) (bd prog f45) := Is.of (by kernel_rfl) (by kernel_rfl)
theorem is_strings_Count : Is prog 59 f59.ntmps (resOf prog f59) (bd prog f59) := Is.of (by kernel_rfl) (by kernel_rfl)
theorem is_strings_Index : Is prog 60 f60.ntmps (resOf prog f60) (bd prog f60) := Is.of (by kernel_rfl) (by kernel_rfl)
theorem is_strings_genSplit : Is prog 53 f53.ntmps (resOf prog f53) (bd prog f53) := Is.of (by kernel_rfl) (by kernel_rfl)
theorem is_strings_Split : Is prog 46 f46.ntmps (resOf prog f46) (bd prog f46) := Is.of (by kernel_rfl) (by kernel_rfl)
theorem is_value_Word : Is prog 37 f37.ntmps (resOf prog f37) (bd prog f37) := Is.of (by kernel_rfl) (by kernel_rfl)
theorem is_schema_kindOf : Is prog 47 f47.ntmps (resOf prog f47) (bd prog f47) := Is.of (by kernel_rfl) (by kernel_rfl)
theorem is_schema_letter : Is prog 43 f43.ntmps (resOf prog f43) (bd prog f43) := Is.of (by kernel_rfl) (by kernel_rfl)
theorem is_schema_Reserved : Is prog 26 f26.ntmps (resOf prog f26) (bd prog f26) := Is.of (by kernel_rfl) (by kernel_rfl)
theorem is_schema_tail : Is prog 44 f44.ntmps (resOf prog f44) (bd prog f44) := Is.of (by kernel_rfl) (by kernel_rfl)
theorem is_schema_Name : Is prog 24 f24.ntmps (resOf prog f24) (bd prog f24) := Is.of (by kernel_rfl) (by kernel_rfl)
theorem is_schema_Type_Field : Is prog 22 f22.ntmps (resOf prog f22) (bd prog f22) := Is.of (by kernel_rfl) (by kernel_rfl)
theorem is_schema_Type_check : Is prog 34 f34.ntmps (resOf prog f34) (bd prog f34) := Is.of (by kernel_rfl) (by kernel_rfl)
theorem is_schema_Find : Is prog 13 f13.ntmps (resOf prog f13) (bd prog f13) := Is.of (by kernel_rfl) (by kernel_rfl)
theorem is_schema_Check : Is prog 17 f17.ntmps (resOf prog f17) (bd prog f17) := Is.of (by kernel_rfl) (by kernel_rfl)
theorem is_schema_Parse : Is prog 28 f28.ntmps (resOf prog f28) (bd prog f28) := Is.of (by kernel_rfl) (by kernel_rfl)
theorem is_value_OfInt : Is prog 29 f29.ntmps (resOf prog f29) (bd prog f29) := Is.of (by kernel_rfl) (by kernel_rfl)
theorem is_value_OfText : Is prog 30 f30.ntmps (resOf prog f30) (bd prog f30) := Is.of (by kernel_rfl) (by kernel_rfl)
theorem is_value_core : Is prog 48 f48.ntmps (resOf prog f48) (bd prog f48) := Is.of (by kernel_rfl) (by kernel_rfl)
theorem is_value_number_whole : Is prog 91 f91.ntmps (resOf prog f91) (bd prog f91) := Is.of (by kernel_rfl) (by kernel_rfl)
theorem is_value_flag_whole : Is prog 92 f92.ntmps (resOf prog f92) (bd prog f92) := Is.of (by kernel_rfl) (by kernel_rfl)
theorem is_real_of : Is prog 54 f54.ntmps (resOf prog f54) (bd prog f54) := Is.of (by kernel_rfl) (by kernel_rfl)
theorem is_real_Clean : Is prog 49 f49.ntmps (resOf prog f49) (bd prog f49) := Is.of (by kernel_rfl) (by kernel_rfl)
theorem is_value_double_whole : Is prog 93 f93.ntmps (resOf prog f93) (bd prog f93) := Is.of (by kernel_rfl) (by kernel_rfl)
theorem is_value_words_whole : Is prog 94 f94.ntmps (resOf prog f94) (bd prog f94) := Is.of (by kernel_rfl) (by kernel_rfl)
theorem is_value_Check : Is prog 31 f31.ntmps (resOf prog f31) (bd prog f31) := Is.of (by kernel_rfl) (by kernel_rfl)
theorem is_schema_Fits : Is prog 9 f9.ntmps (resOf prog f9) (bd prog f9) := Is.of (by kernel_rfl) (by kernel_rfl)
theorem is_law06_awake : Is prog 7 f7.ntmps (resOf prog f7) (bd prog f7) := Is.of (by kernel_rfl) (by kernel_rfl)
theorem is_law06_Own : Is prog 10 f10.ntmps (resOf prog f10) (bd prog f10) := Is.of (by kernel_rfl) (by kernel_rfl)
theorem is_slices_Equal_schema_Field : Is prog 42 f42.ntmps (resOf prog f42) (bd prog f42) := Is.of (by kernel_rfl) (by kernel_rfl)
theorem is_schema_Same_L1 : Is prog 41 f41.ntmps (resOf prog f41) (bd prog f41) := Is.of (by kernel_rfl) (by kernel_rfl)
theorem is_slices_EqualFunc_schema_Type : Is prog 40 f40.ntmps (resOf prog f40) (bd prog f40) := Is.of (by kernel_rfl) (by kernel_rfl)
theorem is_schema_Same : Is prog 21 f21.ntmps (resOf prog f21) (bd prog f21) := Is.of (by kernel_rfl) (by kernel_rfl)
theorem is_law06_SchemaBack : Is prog 5 f5.ntmps (resOf prog f5) (bd prog f5) := Is.of (by kernel_rfl) (by kernel_rfl)
def C_law06_Over : Con tb := .s 6 [true] (.c (.r 1) .n) (fun N a => s_law06_Over N a.1) (R := Int) (.p (.i .i64)) (fun _ => ⟨rfl, (by kernel_rfl)⟩)
def q_law06_Over_0 : LQ tb (((List schema_Type)) × (Int)) := (LQ.m [] [0, 3] (.c 0 (.r 1) (.c 3 (.i .i64) .n)) .n .n).re (fun a => (a.1.1, a.1.2.1)) (fun x => ((x.1, x.2, ()), (), ())) (fun _ => rfl)
def q_law06_Over_2 : LQ tb (((List schema_Type) × Int) × (Int)) := (LQ.m [] [0, 3, 4] (.c 0 (.r 1) (.c 3 (.i .i64) (.c 4 (.i .i64) .n))) .n .n).re (fun a => ((a.1.1, a.1.2.1), a.1.2.2.1)) (fun x => ((x.1.1, x.1.2, x.2, ()), (), ())) (fun _ => rfl)
def f_law06_Over_2 (N : Nat) (next0 : ((List schema_Type)) × (Int) → Option Int) (c : (List schema_Type) × Int) (next : Int → Option Int) (v : Int) : Option Int := s_law06_Over_2 N c.1 c.2 (fun u0 => next0 (c.1, u0)) (fun u0 => next u0) v
abbrev r_law06_Over_2 (N : Nat) (next0 : ((List schema_Type)) × (Int) → Option Int) : ((List schema_Type) × Int) × (Int) → Option Int := fun a => loopV (f_law06_Over_2 N next0 a.1) N a.2
def f_law06_Over_0 (N : Nat) (c : (List schema_Type)) (next : Int → Option Int) (v : Int) : Option Int := s_law06_Over_1 N c (fun u0 => next u0) v
abbrev r_law06_Over_0 (N : Nat) : ((List schema_Type)) × (Int) → Option Int := fun a => loopV (f_law06_Over_0 N a.1) N a.2
def C_stringslite_IndexByte : Con tb := .s 64 [true, true] (.c .s (.c (.i .u8) .n)) (fun N a => s_stringslite_IndexByte N a.1 a.2.1) (R := Int) (.p (.i .i64)) (fun _ => ⟨rfl, (by kernel_rfl)⟩)
def C_stringslite_Index_v860 : Con tb := .s 57 [true, false] (.c .s (.c (.ls [10]) .n)) (fun N a => s_stringslite_Index_v860 N a.1) (R := Int) (.p (.i .i64)) (fun _ => ⟨rfl, (by kernel_rfl)⟩)
def C_stringslite_Cut_v860 : Con tb := .s 52 [true, false] (.c .s (.c (.ls [10]) .n)) (fun N a => s_stringslite_Cut_v860 N a.1) (R := List UInt8 × List UInt8 × Bool) (.p (.tu (.c .s (.c .s (.o .b))))) (fun _ => ⟨rfl, (by kernel_rfl)⟩)
def C_strings_Cut_v860 : Con tb := .s 45 [true, false] (.c .s (.c (.ls [10]) .n)) (fun N a => s_strings_Cut_v860 N a.1) (R := List UInt8 × List UInt8 × Bool) (.p (.tu (.c .s (.c .s (.o .b))))) (fun _ => ⟨rfl, (by kernel_rfl)⟩)
def C_strings_Count_v724 : Con tb := .s 59 [true, false] (.c .s (.c (.ls [32]) .n)) (fun N a => s_strings_Count_v724 N a.1) (R := Int) (.p (.i .i64)) (fun _ => ⟨rfl, (by kernel_rfl)⟩)
def C_stringslite_Index_v724 : Con tb := .s 57 [true, false] (.c .s (.c (.ls [32]) .n)) (fun N a => s_stringslite_Index_v724 N a.1) (R := Int) (.p (.i .i64)) (fun _ => ⟨rfl, (by kernel_rfl)⟩)
def C_strings_Index_v724 : Con tb := .s 60 [true, false] (.c .s (.c (.ls [32]) .n)) (fun N a => s_strings_Index_v724 N a.1) (R := Int) (.p (.i .i64)) (fun _ => ⟨rfl, (by kernel_rfl)⟩)
def C_strings_genSplit_v997 : Con tb := .p 53 [true, false, true, true] (.c .s (.c (.ls [32]) (.c (.i .i64) (.c (.i .i64) .n)))) (fun N a => s_strings_genSplit_v997 N a.1 a.2.2.1 a.2.2.2.1) (R := List (List UInt8)) (.p (.r 2)) (fun _ => rfl)
def q_strings_genSplit_v997_0 : LQ tb ((Int × Int) × ((List UInt8) × Int × (List (List UInt8)))) := (LQ.m [] [0, 1, 2, 3, 9, 10] (.c 0 .s (.c 1 (.ls [32]) (.c 2 (.i .i64) (.c 3 (.i .i64) (.c 9 (.own 0) (.c 10 (.i .i64) .n)))))) .n (.l 2 .n)).re (fun a => ((a.1.2.2.1, a.1.2.2.2.1), (a.1.1, a.1.2.2.2.2.2.1, a.2.2.1))) (fun x => ((x.2.1, (), x.1.1, x.1.2, (), x.2.2.1, ()), (), x.2.2.2, ())) (fun _ => rfl)
def f_strings_genSplit_v997_0 (N : Nat) (c : Int × Int) (next : ((List UInt8) × Int × (List (List UInt8))) → Option (List (List UInt8))) (v : (List UInt8) × Int × (List (List UInt8))) : Option (List (List UInt8)) := s_strings_genSplit_v997_1 N c.1 c.2 (fun u0 u1 u2 => next (u0, u1, u2)) v.1 v.2.1 v.2.2
abbrev r_strings_genSplit_v997_0 (N : Nat) : (Int × Int) × ((List UInt8) × Int × (List (List UInt8))) → Option (List (List UInt8)) := fun a => loopV (f_strings_genSplit_v997_0 N a.1) N a.2
def C_strings_Split_v724 : Con tb := .p 46 [true, false] (.c .s (.c (.ls [32]) .n)) (fun N a => s_strings_Split_v724 N a.1) (R := List (List UInt8)) (.p (.r 2)) (fun _ => rfl)
def C_stringslite_Index_v682 : Con tb := .s 57 [true, false] (.c .s (.c (.ls [58]) .n)) (fun N a => s_stringslite_Index_v682 N a.1) (R := Int) (.p (.i .i64)) (fun _ => ⟨rfl, (by kernel_rfl)⟩)
def C_stringslite_Cut_v682 : Con tb := .s 52 [true, false] (.c .s (.c (.ls [58]) .n)) (fun N a => s_stringslite_Cut_v682 N a.1) (R := List UInt8 × List UInt8 × Bool) (.p (.tu (.c .s (.c .s (.o .b))))) (fun _ => ⟨rfl, (by kernel_rfl)⟩)
def C_strings_Cut_v682 : Con tb := .s 45 [true, false] (.c .s (.c (.ls [58]) .n)) (fun N a => s_strings_Cut_v682 N a.1) (R := List UInt8 × List UInt8 × Bool) (.p (.tu (.c .s (.c .s (.o .b))))) (fun _ => ⟨rfl, (by kernel_rfl)⟩)
def C_value_Word : Con tb := .s 37 [true] (.c (.i .u8) .n) (fun N a => s_value_Word N a.1) (R := List UInt8) (.p .s) (fun _ => ⟨rfl, (by kernel_rfl)⟩)
def C_schema_kindOf : Con tb := .s 47 [true] (.c .s .n) (fun N a => s_schema_kindOf N a.1) (R := Int) (.p (.i .u8)) (fun _ => ⟨rfl, (by kernel_rfl)⟩)
def q_schema_kindOf_0 : LQ tb (((List UInt8)) × (Int)) := (LQ.m [] [0, 3] (.c 0 .s (.c 3 (.i .u8) .n)) .n .n).re (fun a => (a.1.1, a.1.2.1)) (fun x => ((x.1, x.2, ()), (), ())) (fun _ => rfl)
def f_schema_kindOf_0 (N : Nat) (c : (List UInt8)) (next : Int → Option Int) (v : Int) : Option Int := s_schema_kindOf_1 N c (fun u0 => next u0) v
abbrev r_schema_kindOf_0 (N : Nat) : ((List UInt8)) × (Int) → Option Int := fun a => loopV (f_schema_kindOf_0 N a.1) N a.2
def C_schema_letter : Con tb := .s 43 [true] (.c (.i .u8) .n) (fun N a => s_schema_letter N a.1) (R := Bool) (.p .b) (fun _ => ⟨rfl, (by kernel_rfl)⟩)
def C_schema_Reserved : Con tb := .s 26 [true] (.c .s .n) (fun N a => s_schema_Reserved N a.1) (R := Bool) (.p .b) (fun _ => ⟨rfl, (by kernel_rfl)⟩)
def C_schema_tail : Con tb := .s 44 [true] (.c (.i .u8) .n) (fun N a => s_schema_tail N a.1) (R := Bool) (.p .b) (fun _ => ⟨rfl, (by kernel_rfl)⟩)
def C_schema_Name : Con tb := .s 24 [true] (.c .s .n) (fun N a => s_schema_Name N a.1) (R := Bool) (.p .b) (fun _ => ⟨rfl, (by kernel_rfl)⟩)
def q_schema_Name_0 : LQ tb (((List UInt8)) × (Int)) := (LQ.m [] [0, 3] (.c 0 .s (.c 3 (.i .i64) .n)) .n .n).re (fun a => (a.1.1, a.1.2.1)) (fun x => ((x.1, x.2, ()), (), ())) (fun _ => rfl)
def f_schema_Name_0 (N : Nat) (c : (List UInt8)) (next : Int → Option Bool) (v : Int) : Option Bool := s_schema_Name_1 N c (fun u0 => next u0) v
abbrev r_schema_Name_0 (N : Nat) : ((List UInt8)) × (Int) → Option Bool := fun a => loopV (f_schema_Name_0 N a.1) N a.2
def C_schema_Type_Field : Con tb := .s 22 [true, true] (.c (.el tb_ok 1) (.c .s .n)) (fun N a => s_schema_Type_Field N a.1 a.2.1) (R := Int × Int) (.p (.tu (.c (.i .i64) (.o (.i .u8))))) (fun _ => ⟨rfl, (by kernel_rfl)⟩)
def q_schema_Type_Field_0 : LQ tb (((List UInt8) × (List schema_Field) × Int) × (Int)) := (LQ.m [] [1, 9, 10, 11] (.c 1 .s (.c 9 (.r 0) (.c 10 (.i .i64) (.c 11 (.i .i64) .n)))) .n .n).re (fun a => ((a.1.1, a.1.2.1, a.1.2.2.1), a.1.2.2.2.1)) (fun x => ((x.1.1, x.1.2.1, x.1.2.2, x.2, ()), (), ())) (fun _ => rfl)
def f_schema_Type_Field_0 (N : Nat) (c : (List UInt8) × (List schema_Field) × Int) (next : Int → Option (Int × Int)) (v : Int) : Option (Int × Int) := s_schema_Type_Field_1 N c.1 c.2.1 c.2.2 (fun u0 => next u0) v
abbrev r_schema_Type_Field_0 (N : Nat) : ((List UInt8) × (List schema_Field) × Int) × (Int) → Option (Int × Int) := fun a => loopV (f_schema_Type_Field_0 N a.1) N a.2
def C_schema_Type_check : Con tb := .s 34 [true] (.c (.el tb_ok 1) .n) (fun N a => s_schema_Type_check N a.1) (R := Int) (.p (.i .i64)) (fun _ => ⟨rfl, (by kernel_rfl)⟩)
def q_schema_Type_check_0 : LQ tb (((List schema_Field) × Int × (List UInt8) × (List schema_Field)) × (Int)) := (LQ.m [] [1, 16, 17, 18] (.c 1 (.ptr 0 0) (.c 16 (.r 0) (.c 17 (.i .i64) (.c 18 (.i .i64) .n)))) (.c (.c .s (.c (.r 0) .n)) .n) .n).re (fun a => ((a.1.2.1, a.1.2.2.1, a.2.1.1.1, a.2.1.1.2.1), a.1.2.2.2.1)) (fun x => (((), x.1.1, x.1.2.1, x.2, ()), ((x.1.2.2.1, x.1.2.2.2, ()), ()), ())) (fun _ => rfl)
def f_schema_Type_check_0 (N : Nat) (c : (List schema_Field) × Int × (List UInt8) × (List schema_Field)) (next : Int → Option Int) (v : Int) : Option Int := s_schema_Type_check_1 N c.1 c.2.1 c.2.2.1 c.2.2.2 (fun u0 => next u0) v
abbrev r_schema_Type_check_0 (N : Nat) : ((List schema_Field) × Int × (List UInt8) × (List schema_Field)) × (Int) → Option Int := fun a => loopV (f_schema_Type_check_0 N a.1) N a.2
def C_slices_Clone_schema_Field : Con tb := .clone 33 0 (fun _ s => shClone 24 s)
def C_schema_Find : Con tb := .p 13 [true, true] (.c (.r 1) (.c .s .n)) (fun N a => s_schema_Find N a.1 a.2.1) (R := schema_Type × Bool) (.p (.tu (.c (.el tb_ok 1) (.o .b)))) (fun _ => rfl)
def q_schema_Find_0 : LQ tb (((List UInt8) × (List schema_Type) × Int) × (Int)) := (LQ.m [] [1, 4, 8, 9, 10] (.c 1 .s (.c 4 (.ptr 0 0) (.c 8 (.r 1) (.c 9 (.i .i64) (.c 10 (.i .i64) .n))))) (.c (.c (.ls []) (.c .e .n)) .n) .n).re (fun a => ((a.1.1, a.1.2.2.1, a.1.2.2.2.1), a.1.2.2.2.2.1)) (fun x => ((x.1.1, (), x.1.2.1, x.1.2.2, x.2, ()), (((), (), ()), ()), ())) (fun _ => rfl)
def f_schema_Find_0 (N : Nat) (c : (List UInt8) × (List schema_Type) × Int) (next : Int → Option (schema_Type × Bool)) (v : Int) : Option (schema_Type × Bool) := s_schema_Find_1 N c.1 c.2.1 c.2.2 (fun u0 => next u0) v
abbrev r_schema_Find_0 (N : Nat) : ((List UInt8) × (List schema_Type) × Int) × (Int) → Option (schema_Type × Bool) := fun a => loopV (f_schema_Find_0 N a.1) N a.2
def C_schema_Check : Con tb := .s 17 [true] (.c (.r 1) .n) (fun N a => s_schema_Check N a.1) (R := Int) (.p (.i .i64)) (fun _ => ⟨rfl, (by kernel_rfl)⟩)
def q_schema_Check_0 : LQ tb (((List schema_Type) × (List schema_Type) × Int) × (Int)) := (LQ.m [] [0, 11, 12, 13] (.c 0 (.r 1) (.c 11 (.r 1) (.c 12 (.i .i64) (.c 13 (.i .i64) .n)))) .n .n).re (fun a => ((a.1.1, a.1.2.1, a.1.2.2.1), a.1.2.2.2.1)) (fun x => ((x.1.1, x.1.2.1, x.1.2.2, x.2, ()), (), ())) (fun _ => rfl)
def f_schema_Check_0 (N : Nat) (c : (List schema_Type) × (List schema_Type) × Int) (next : Int → Option Int) (v : Int) : Option Int := s_schema_Check_1 N c.1 c.2.1 c.2.2 (fun u0 => next u0) v
abbrev r_schema_Check_0 (N : Nat) : ((List schema_Type) × (List schema_Type) × Int) × (Int) → Option Int := fun a => loopV (f_schema_Check_0 N a.1) N a.2
def C_schema_Parse : Con tb := .p 28 [true] (.c .s .n) (fun N a => s_schema_Parse N a.1) (R := List schema_Type × Int) (.p (.tu (.c (.r 1) (.o (.i .i64))))) (fun _ => rfl)
def q_schema_Parse_0 : LQ tb ((Unit) × ((List UInt8) × (List schema_Type))) := (LQ.m [(4, none, 1)] [0, 4, 5] (.c 0 .s (.c 4 (.own 0) (.c 5 (.lb true) .n))) .n (.l 1 .n)).re (fun a => ((), (a.1.1, a.2.2.1))) (fun x => ((x.2.1, (), (), ()), (), x.2.2, ())) (fun _ => rfl)
def q_schema_Parse_2 : LQ tb (((List UInt8) × Bool × (List (List UInt8)) × Int × (List UInt8)) × (Int × (List schema_Type) × (List schema_Field))) := (LQ.m [(10, some 1, 0)] [4, 5, 7, 8, 10, 33, 34, 35] (.c 4 (.own 0) (.c 5 (.lb true) (.c 7 .s (.c 8 .b (.c 10 (.ptr 0 0) (.c 33 (.r 2) (.c 34 (.i .i64) (.c 35 (.i .i64) .n)))))))) (.c (.c .s (.c (.own 1) .n)) .n) (.l 1 (.l 0 .n))).re (fun a => ((a.1.2.2.1, a.1.2.2.2.1, a.1.2.2.2.2.2.1, a.1.2.2.2.2.2.2.1, a.2.1.1.1), (a.1.2.2.2.2.2.2.2.1, a.2.2.1, a.2.2.2.1))) (fun x => (((), (), x.1.1, x.1.2.1, (), x.1.2.2.1, x.1.2.2.2.1, x.2.1, ()), ((x.1.2.2.2.2, (), ()), ()), x.2.2.1, x.2.2.2, ())) (fun _ => rfl)
def f_schema_Parse_2 (N : Nat) (next0 : (Unit) × ((List UInt8) × (List schema_Type)) → Option (List schema_Type × Int)) (c : (List UInt8) × Bool × (List (List UInt8)) × Int × (List UInt8)) (next : (Int × (List schema_Type) × (List schema_Field)) → Option (List schema_Type × Int)) (v : Int × (List schema_Type) × (List schema_Field)) : Option (List schema_Type × Int) := s_schema_Parse_2 N c.1 c.2.1 c.2.2.1 c.2.2.2.1 c.2.2.2.2 (fun u0 u1 => next0 ((), (u0, u1))) (fun u0 u1 u2 => next (u0, u1, u2)) v.1 v.2.1 v.2.2
abbrev r_schema_Parse_2 (N : Nat) (next0 : (Unit) × ((List UInt8) × (List schema_Type)) → Option (List schema_Type × Int)) : ((List UInt8) × Bool × (List (List UInt8)) × Int × (List UInt8)) × (Int × (List schema_Type) × (List schema_Field)) → Option (List schema_Type × Int) := fun a => loopV (f_schema_Parse_2 N next0 a.1) N a.2
def f_schema_Parse_0 (N : Nat) (c : Unit) (next : ((List UInt8) × (List schema_Type)) → Option (List schema_Type × Int)) (v : (List UInt8) × (List schema_Type)) : Option (List schema_Type × Int) := s_schema_Parse_1 N (fun u0 u1 => next (u0, u1)) v.1 v.2
abbrev r_schema_Parse_0 (N : Nat) : (Unit) × ((List UInt8) × (List schema_Type)) → Option (List schema_Type × Int) := fun a => loopV (f_schema_Parse_0 N a.1) N a.2
def C_value_OfInt : Con tb := .s 29 [true] (.c (.i .i64) .n) (fun N a => s_value_OfInt N a.1) (R := value_Value) (.p (.el tb_ok 3)) (fun _ => ⟨rfl, (by kernel_rfl)⟩)
def C_value_OfText : Con tb := .s 30 [true] (.c .s .n) (fun N a => s_value_OfText N a.1) (R := value_Value) (.p (.el tb_ok 3)) (fun _ => ⟨rfl, (by kernel_rfl)⟩)
def C_value_core : Con tb := .p 48 [true] (.c (.el tb_ok 3) .n) (fun N a => s_value_core N a.1) (R := Int ⊕ Int ⊕ Int ⊕ (List UInt8) ⊕ Unit) (.or (.p (.ifc 95 (.i .i64))) (.or (.p (.ifc 96 (.i .i64))) (.or (.p (.ifc 97 (.i .u64))) (.or (.p (.ifc 99 .s)) (.p .ni))))) (fun r => by rcases r with _ | _ | _ | _ | _ <;> exact rfl)
def C_value_number_whole : Con tb := .s 91 [true] (.c (.i .i64) .n) (fun N a => s_value_number_whole N a.1) (R := value_Value) (.p (.el tb_ok 3)) (fun _ => ⟨rfl, (by kernel_rfl)⟩)
def C_value_flag_whole : Con tb := .s 92 [true] (.c (.i .i64) .n) (fun N a => s_value_flag_whole N a.1) (R := value_Value) (.p (.el tb_ok 3)) (fun _ => ⟨rfl, (by kernel_rfl)⟩)
def C_real_of : Con tb := .s 54 [true] (.c (.i .u64) .n) (fun N a => s_real_of N a.1) (R := Nat) (.p (.f .f64)) (fun _ => ⟨rfl, (by kernel_rfl)⟩)
def C_real_Clean : Con tb := .s 49 [true] (.c (.i .u64) .n) (fun N a => s_real_Clean N a.1) (R := Int) (.p (.i .u64)) (fun _ => ⟨rfl, (by kernel_rfl)⟩)
def C_value_double_whole : Con tb := .s 93 [true] (.c (.i .u64) .n) (fun N a => s_value_double_whole N a.1) (R := value_Value) (.p (.el tb_ok 3)) (fun _ => ⟨rfl, (by kernel_rfl)⟩)
def C_value_words_whole : Con tb := .s 94 [true] (.c .s .n) (fun N a => s_value_words_whole N a.1) (R := value_Value) (.p (.el tb_ok 3)) (fun _ => ⟨rfl, (by kernel_rfl)⟩)
def C_value_Check : Con tb := .s 31 [true] (.c (.el tb_ok 3) .n) (fun N a => s_value_Check N a.1) (R := Int) (.p (.i .i64)) (fun _ => ⟨rfl, (by kernel_rfl)⟩)
def C_schema_Fits : Con tb := .s 9 [true, true] (.c (.el tb_ok 1) (.c (.r 3) .n)) (fun N a => s_schema_Fits N a.1 a.2.1) (R := Int) (.p (.i .i64)) (fun _ => ⟨rfl, (by kernel_rfl)⟩)
def q_schema_Fits_0 : LQ tb (((List value_Value) × Int × (List UInt8) × (List schema_Field)) × (Int)) := (LQ.m [] [2, 14, 15, 16] (.c 2 (.ptr 0 0) (.c 14 (.r 3) (.c 15 (.i .i64) (.c 16 (.i .i64) .n)))) (.c (.c .s (.c (.r 0) .n)) .n) .n).re (fun a => ((a.1.2.1, a.1.2.2.1, a.2.1.1.1, a.2.1.1.2.1), a.1.2.2.2.1)) (fun x => (((), x.1.1, x.1.2.1, x.2, ()), ((x.1.2.2.1, x.1.2.2.2, ()), ()), ())) (fun _ => rfl)
def f_schema_Fits_0 (N : Nat) (c : (List value_Value) × Int × (List UInt8) × (List schema_Field)) (next : Int → Option Int) (v : Int) : Option Int := s_schema_Fits_1 N c.1 c.2.1 c.2.2.2 (fun u0 => next u0) v
abbrev r_schema_Fits_0 (N : Nat) : ((List value_Value) × Int × (List UInt8) × (List schema_Field)) × (Int) → Option Int := fun a => loopV (f_schema_Fits_0 N a.1) N a.2
def C_schema_Print : Con tb := .s 19 [true] (.c (.r 1) .n) (fun N a => s_schema_Print N a.1) (R := List UInt8) (.p .s) (fun _ => ⟨rfl, (by kernel_rfl)⟩)
def C_law06_awake : Con tb := .s 7 [] .n (fun N a => s_law06_awake N) (R := Bool) (.p .b) (fun _ => ⟨rfl, (by kernel_rfl)⟩)
def C_law06_Own : Con tb := .p 10 [true] (.c (.r 1) .n) (fun N a => s_law06_Own N a.1) (R := List schema_Type) (.p (.r 1)) (fun _ => rfl)
def q_law06_Own_0 : LQ tb (((List schema_Type)) × (Int × (List schema_Type))) := (LQ.m [(3, none, 1)] [0, 3, 4] (.c 0 (.r 1) (.c 3 (.own 0) (.c 4 (.i .i64) .n))) .n (.l 1 .n)).re (fun a => (a.1.1, (a.1.2.2.1, a.2.2.1))) (fun x => ((x.1, (), x.2.1, ()), (), x.2.2, ())) (fun _ => rfl)
def q_law06_Own_2 : LQ tb (((List schema_Type) × Int × (List UInt8)) × (Int × (List schema_Type) × (List schema_Field))) := (LQ.m [(5, some 1, 0)] [0, 3, 4, 5, 6] (.c 0 (.r 1) (.c 3 (.own 0) (.c 4 (.i .i64) (.c 5 (.ptr 0 0) (.c 6 (.i .i64) .n))))) (.c (.c .s (.c (.own 1) .n)) .n) (.l 1 (.l 0 .n))).re (fun a => ((a.1.1, a.1.2.2.1, a.2.1.1.1), (a.1.2.2.2.2.1, a.2.2.1, a.2.2.2.1))) (fun x => ((x.1.1, (), x.1.2.1, (), x.2.1, ()), ((x.1.2.2, (), ()), ()), x.2.2.1, x.2.2.2, ())) (fun _ => rfl)
def f_law06_Own_2 (N : Nat) (next0 : ((List schema_Type)) × (Int × (List schema_Type)) → Option (List schema_Type)) (c : (List schema_Type) × Int × (List UInt8)) (next : (Int × (List schema_Type) × (List schema_Field)) → Option (List schema_Type)) (v : Int × (List schema_Type) × (List schema_Field)) : Option (List schema_Type) := s_law06_Own_2 N c.1 c.2.1 c.2.2 (fun u0 u1 => next0 (c.1, (u0, u1))) (fun u0 u1 u2 => next (u0, u1, u2)) v.1 v.2.1 v.2.2
abbrev r_law06_Own_2 (N : Nat) (next0 : ((List schema_Type)) × (Int × (List schema_Type)) → Option (List schema_Type)) : ((List schema_Type) × Int × (List UInt8)) × (Int × (List schema_Type) × (List schema_Field)) → Option (List schema_Type) := fun a => loopV (f_law06_Own_2 N next0 a.1) N a.2
def f_law06_Own_0 (N : Nat) (c : (List schema_Type)) (next : (Int × (List schema_Type)) → Option (List schema_Type)) (v : Int × (List schema_Type)) : Option (List schema_Type) := s_law06_Own_1 N c (fun u0 u1 => next (u0, u1)) v.1 v.2
abbrev r_law06_Own_0 (N : Nat) : ((List schema_Type)) × (Int × (List schema_Type)) → Option (List schema_Type) := fun a => loopV (f_law06_Own_0 N a.1) N a.2
def C_slices_Equal_schema_Field : Con tb := .s 42 [true, true] (.c (.r 0) (.c (.r 0) .n)) (fun N a => s_slices_Equal_schema_Field N a.1 a.2.1) (R := Bool) (.p .b) (fun _ => ⟨rfl, (by kernel_rfl)⟩)
def q_slices_Equal_schema_Field_0 : LQ tb (((List schema_Field) × (List schema_Field) × Int) × (Int)) := (LQ.m [] [0, 1, 12, 13] (.c 0 (.r 0) (.c 1 (.r 0) (.c 12 (.i .i64) (.c 13 (.i .i64) .n)))) .n .n).re (fun a => ((a.1.1, a.1.2.1, a.1.2.2.1), a.1.2.2.2.1)) (fun x => ((x.1.1, x.1.2.1, x.1.2.2, x.2, ()), (), ())) (fun _ => rfl)
def f_slices_Equal_schema_Field_0 (N : Nat) (c : (List schema_Field) × (List schema_Field) × Int) (next : Int → Option Bool) (v : Int) : Option Bool := s_slices_Equal_schema_Field_1 N c.1 c.2.1 c.2.2 (fun u0 => next u0) v
abbrev r_slices_Equal_schema_Field_0 (N : Nat) : ((List schema_Field) × (List schema_Field) × Int) × (Int) → Option Bool := fun a => loopV (f_slices_Equal_schema_Field_0 N a.1) N a.2
def C_schema_Same_L1 : Con tb := .s 41 [true, true] (.c (.el tb_ok 1) (.c (.el tb_ok 1) .n)) (fun N a => s_schema_Same_L1 N a.1 a.2.1) (R := Bool) (.p .b) (fun _ => ⟨rfl, (by kernel_rfl)⟩)
def C_slices_EqualFunc_schema_Type_v029 : Con tb := .s 40 [true, true, false] (.c (.r 1) (.c (.r 1) (.c (.fn 41 .n .n) .n))) (fun N a => s_slices_EqualFunc_schema_Type_v029 N a.1 a.2.1) (R := Bool) (.p .b) (fun _ => ⟨rfl, (by kernel_rfl)⟩)
def q_slices_EqualFunc_schema_Type_v029_0 : LQ tb (((List schema_Type) × (List schema_Type) × Int) × (Int)) := (LQ.m [] [1, 2, 15, 16, 17] (.c 1 (.r 1) (.c 2 (.fn 41 .n .n) (.c 15 (.r 1) (.c 16 (.i .i64) (.c 17 (.i .i64) .n))))) .n .n).re (fun a => ((a.1.1, a.1.2.2.1, a.1.2.2.2.1), a.1.2.2.2.2.1)) (fun x => ((x.1.1, ((), ()), x.1.2.1, x.1.2.2, x.2, ()), (), ())) (fun _ => rfl)
def f_slices_EqualFunc_schema_Type_v029_0 (N : Nat) (c : (List schema_Type) × (List schema_Type) × Int) (next : Int → Option Bool) (v : Int) : Option Bool := s_slices_EqualFunc_schema_Type_v029_1 N c.1 c.2.1 c.2.2 (fun u0 => next u0) v
abbrev r_slices_EqualFunc_schema_Type_v029_0 (N : Nat) : ((List schema_Type) × (List schema_Type) × Int) × (Int) → Option Bool := fun a => loopV (f_slices_EqualFunc_schema_Type_v029_0 N a.1) N a.2
def C_schema_Same : Con tb := .s 21 [true, true] (.c (.r 1) (.c (.r 1) .n)) (fun N a => s_schema_Same N a.1 a.2.1) (R := Bool) (.p .b) (fun _ => ⟨rfl, (by kernel_rfl)⟩)
def C_law06_SchemaBack : Con tb := .s 5 [true, true] (.c (.r 1) (.c .s .n)) (fun N a => s_law06_SchemaBack N a.1 a.2.1) (R := Bool) (.p .b) (fun _ => ⟨rfl, (by kernel_rfl)⟩)
end
end Go.Proofs.YtabploamljmibaaDoor.W
namespace Go.Proofs.YtabploamljmibaaDoor.W
open Go Go.Shelf Go.RowKit Go.Proofs.Tryd
set_option maxHeartbeats 1000000
set_option maxRecDepth 1000000
def bren : Go.Shelf.Ren := ⟨fun | 166 => 36 | 169 => 38 | 240 => 51 | 276 => 56 | n => n, fun | 0 => 0 | 3 => 3 | 4 => 4 | 5 => 5 | 9 => 9 | 20 => 20 | 37 => 74 | 70 => 73 | 72 => 76 | 75 => 78 | 80 => 82 | 127 => 101 | 164 => 106 | n => n, fun n => n⟩
theorem lays166 : Go.Proofs.Lays.n166 Tryd.prog bren := {
  mixed := by kernel_rfl
  f166 := Tryd.func36.trans (congrArg some (by kernel_rfl))
  f240 := Tryd.func51.trans (congrArg some (by kernel_rfl))
  f276 := Tryd.func56.trans (congrArg some (by kernel_rfl))
  t0 := Tryd.underlying0
  a0 := Tryd.isAgg0
  z0 := Tryd.sizeOf0
  v0 := Tryd.zeroValue0
  t3 := Tryd.underlying3
  a3 := Tryd.isAgg3
  z3 := Tryd.sizeOf3
  v3 := Tryd.zeroValue3
  t4 := Tryd.underlying4
  a4 := Tryd.isAgg4
  z4 := Tryd.sizeOf4
  v4 := Tryd.zeroValue4
  t9 := Tryd.underlying9
  a9 := Tryd.isAgg9
  z9 := Tryd.sizeOf9
  v9 := Tryd.zeroValue9
  t20 := Tryd.underlying20
  a20 := Tryd.isAgg20
  z20 := Tryd.sizeOf20
  v20 := Tryd.zeroValue20
  t37 := Tryd.underlying74
  a37 := Tryd.isAgg74
  z37 := Tryd.sizeOf74
  v37 := Tryd.zeroValue74
  t70 := Tryd.underlying73
  a70 := Tryd.isAgg73
  z70 := Tryd.sizeOf73
  v70 := Tryd.zeroValue73
  t72 := Tryd.underlying76
  a72 := Tryd.isAgg76
  z72 := Tryd.sizeOf76
  v72 := Tryd.zeroValue76
  t75 := Tryd.underlying78
  a75 := Tryd.isAgg78
  z75 := Tryd.sizeOf78
  v75 := Tryd.zeroValue78
  t164 := Tryd.underlying106
  a164 := Tryd.isAgg106
  z164 := Tryd.sizeOf106
  v164 := Tryd.zeroValue106 }
theorem lays169 : Go.Proofs.Lays.n169 Tryd.prog bren := {
  mixed := by kernel_rfl
  f169 := Tryd.func38.trans (congrArg some (by kernel_rfl))
  t0 := Tryd.underlying0
  a0 := Tryd.isAgg0
  z0 := Tryd.sizeOf0
  v0 := Tryd.zeroValue0
  t3 := Tryd.underlying3
  a3 := Tryd.isAgg3
  z3 := Tryd.sizeOf3
  v3 := Tryd.zeroValue3
  t9 := Tryd.underlying9
  a9 := Tryd.isAgg9
  z9 := Tryd.sizeOf9
  v9 := Tryd.zeroValue9
  t37 := Tryd.underlying74
  a37 := Tryd.isAgg74
  z37 := Tryd.sizeOf74
  v37 := Tryd.zeroValue74
  t70 := Tryd.underlying73
  a70 := Tryd.isAgg73
  z70 := Tryd.sizeOf73
  v70 := Tryd.zeroValue73
  t72 := Tryd.underlying76
  a72 := Tryd.isAgg76
  z72 := Tryd.sizeOf76
  v72 := Tryd.zeroValue76
  t127 := Tryd.underlying101
  a127 := Tryd.isAgg101
  z127 := Tryd.sizeOf101
  v127 := Tryd.zeroValue101 }
theorem bextra : Builder.Extra Tryd.prog bren := {
  sizeBuilder := by kernel_rfl
  liesBuilder := by kernel_rfl
  t5 := Tryd.underlying5
  a5 := Tryd.isAgg5
  z5 := Tryd.sizeOf5
  v5 := Tryd.zeroValue5
  infoByte := by kernel_rfl
  cellsByte := by kernel_rfl
  sizeByte := by kernel_rfl
  neB5 := by decide }
/-- What lies at a place of a row. -/
theorem sl_at {S : Nat → Prop} {w : World} {v : Value} {α : Type} {f : α → AV} {k : Nat} {l : List α} (h : DRep S w v (.sl k (l.map f))) :
    ∃ a n cap, l.length = n ∧ v = .slice a n cap ∧ ∀ pre e rest, l = pre ++ e :: rest → ∃ g o c T fz, a = some ⟨g, o, none⟩ ∧ S g ∧ w.heap[g]? = some (.cells c T fz) ∧ o + l.length * k ≤ c.size ∧ (f e).cells.length = k ∧ ∀ j, j < k → DRep S w (c.getD (o + pre.length * k + j) undef) ((f e).cells.getD j .any) := by
  generalize hx : l.map f = xs at h
  cases h with
  | sl0 a cap =>
    obtain rfl := List.map_eq_nil_iff.1 hx
    exact ⟨a, 0, cap, rfl, rfl, fun pre e rest h => by simp at h⟩
  | sl g o cap k xs c T fz hcap hS hg hb hk h1 h =>
    subst hx
    rw [List.length_map] at *
    refine ⟨some ⟨g, o, none⟩, l.length, cap, rfl, rfl, fun pre e rest hl => ⟨g, o, c, T, fz, rfl, hS, hg, hb, ?_, fun j hj => ?_⟩⟩
    · have := hk pre.length (by rw [hl]; simp)
      simpa [hl] using this
    · have := h pre.length (by rw [hl]; simp) j hj
      simpa [hl] using this

theorem drep_v {S : Nat → Prop} {w : World} {v x : Value} (h : DRep S w v (.v x)) : v = x := by cases h; rfl
theorem bs_size (x : List UInt8) : (bs x).size = x.length := by simp [bs, ByteArray.size]
theorem bs_list (x : List UInt8) : (bs x).data.toList = x := by simp [bs]
theorem strCells_bs (x : List UInt8) : Lib.strCells (bs x) = Lib.byteCells x := by rw [Lib.strCells_eq, bs_list]
theorem cat_bs (n d : List UInt8) : (({ data := #[32] } : ByteArray) ++ bs n ++ { data := #[58] } ++ bs d) = bs ([32] ++ n ++ [58] ++ d) := by
  apply ByteArray.ext; simp [bs]
theorem prS_snoc (pre : List schema_Type) (t : schema_Type) : prS (pre ++ [t]) = prS pre ++ t.Name ++ t.Fields.flatMap prF ++ [10] := by simp [prS, prT]
theorem prF_snoc (x : List UInt8) (pre : List schema_Field) (f : schema_Field) : x ++ (pre ++ [f]).flatMap prF = x ++ pre.flatMap prF ++ ([32] ++ f.Name ++ [58] ++ wordB f.Kind) := by simp [prF]
theorem prS_parts {l pre rest : List schema_Type} {t : schema_Type} (h : l = pre ++ t :: rest) : (prS l).length = (prS pre).length + (t.Name.length + (t.Fields.flatMap prF).length + 1) + (prS rest).length := by
  subst h
  simp only [prS, List.flatMap_append, List.flatMap_cons, prT, List.length_append, List.length_cons, List.length_nil]; omega
theorem prS_le : ∀ l : List schema_Type, l.length ≤ (prS l).length
  | [] => Nat.le_refl _
  | t :: l => by
    have := prS_le l
    have := prS_parts (l := t :: l) (pre := []) (rest := l) (t := t) rfl
    simp only [List.length_cons]; omega
theorem prF_parts {l pre rest : List schema_Field} {f : schema_Field} (h : l = pre ++ f :: rest) : (l.flatMap prF).length = (pre.flatMap prF).length + (f.Name.length + (wordB f.Kind).length + 2) + (rest.flatMap prF).length := by
  subst h
  simp only [List.flatMap_append, List.flatMap_cons, prF, List.length_append, List.length_cons, List.length_nil]; omega

theorem prF_le : ∀ l : List schema_Field, l.length ≤ (l.flatMap prF).length
  | [] => Nat.le_refl _
  | f :: l => by
    have := prF_le l
    have := prF_parts (l := f :: l) (pre := []) (rest := l) (f := f) rfl
    simp only [List.length_cons]; omega
theorem wrap_le {n : Nat} (h : n < 9223372036854775807) : wrap64 ((n : Int) + 1) = ((n + 1 : Nat) : Int) := by
  unfold wrap64; omega
theorem write_f {w wq : World} {x : List UInt8} {name : List UInt8} {kind : Int} (hI : Lib.IsBuilderF 76 5 w.heap.size w.heap.size (Lib.byteCells x) wq) (hb : Below w.heap.size w wq)
    (hq : x.length + (name.length + (wordB kind).length + 2) ≤ 140737488355328) :
    Calls Tryd.prog 36 #[.pointer (some ⟨w.heap.size, 0, none⟩), .string (({ data := #[32] } : ByteArray) ++ bs name ++ { data := #[58] } ++ bs (wordB kind))] (wq.alloc (.cells #[.string (bs name), .int .u8 kind] 69)).drew fun e W =>
      e = .returned (.tuple #[.int .i64 (({ data := #[32] } : ByteArray) ++ bs name ++ { data := #[58] } ++ bs (wordB kind)).size, .nilIface]) ∧ Lib.IsBuilderF 76 5 w.heap.size w.heap.size (Lib.byteCells (x ++ ([32] ++ name ++ [58] ++ wordB kind))) W ∧ Below w.heap.size w W ∧
      W.cell? ⟨wq.heap.size, 0, none⟩ = some (.string (bs name)) ∧ W.cell? ⟨wq.heap.size, 1, none⟩ = some (.int .u8 kind) := by
  have hbs : w.heap.size < wq.heap.size := by
    have : ∃ o, wq.heap[w.heap.size]? = some o := by
      rcases hI with ⟨_, v, h, _⟩ | ⟨_, v, h, _⟩ <;> exact ⟨_, h⟩
    obtain ⟨o, ho⟩ := this
    exact (Array.getElem?_eq_some_iff.1 ho).1
  refine (Any.Builder_WriteString_k lays166 bextra w.heap.size w.heap.size _ _ _ (show Lib.IsBuilderF _ _ _ _ _ (wq.alloc (.cells #[.string (bs name), .int .u8 kind] 69)).drew from hI.alloc _) ?_ ?_).mono ?_
  · rw [cat_bs, bs_size, Lib.byteCells_length]
    simp only [List.length_append, List.length_cons, List.length_nil]; omega
  · show _ ≤ (wq.alloc (.cells #[.string (bs name), .int .u8 kind] 69)).heap.size
    simp; omega
  rintro e W3 ⟨rfl, h3, b3, k3⟩
  have hf3 := k3 wq.heap.size _ (heap_alloc_new wq _) (fun e => by have := Option.some.inj e; omega) (fun _ _ e => by cases e)
  refine ⟨rfl, Or.inr ?_, (hb.alloc (Nat.le_of_lt hbs) _).drew.trans b3, ?_, ?_⟩
  · rw [cat_bs, strCells_bs, ← Lib.byteCells_append] at h3
    exact h3
  · rw [Lib.cell_of_heap hf3]; rfl
  · rw [Lib.cell_of_heap hf3]; rfl

set_option maxHeartbeats 4000000 in
theorem word_walk (k : Int) (w : World) : Calls Tryd.prog 37 #[.int .u8 k] w fun e w' => e = .returned (.string (bs (wordB k))) ∧ w' = w := by
  go_enter Tryd.func37, Tryd.ntmps37
  go_wp2
  all_goals (go_ret; simp_all [wordB, bs])

theorem print_walk (S : Nat → Prop) (l : List schema_Type) (v : Value) (w : World) (hS : ∀ g, S g → g < w.heap.size) (hv : DRep S w v (.sl 2 (l.map eA1))) (hlen : (prS l).length ≤ 140737488355328) :
    Calls Tryd.prog 19 #[v] w fun e w' => e = .returned (.string (bs (prS l))) ∧ Below w.heap.size w w' := by
  obtain ⟨a, n, cap, hn, rfl, hat⟩ := sl_at hv
  go_enter Tryd.func19, Tryd.ntmps19
  go_wp2
  go_loopw [10] (fun i wr => ∃ (pre rest : List schema_Type), l = pre ++ rest ∧ i = .int .i64 pre.length ∧ Lib.IsBuilderF 76 5 w.heap.size w.heap.size (Lib.byteCells (prS pre)) wr ∧ Below w.heap.size w wr) (fun i _ => n - (intOf i).toNat)
  case atStart =>
    exact ⟨[], l, rfl, rfl, Lib.IsBuilderF.of (Lib.fresh_isBuilder 76 5 w), (Below.refl _ w).alloc (Nat.le_refl _) _⟩
  case round =>
    obtain ⟨pre, rest, hl, rfl, hI, hb⟩ := hrel
    have hbs : w.heap.size < wr.heap.size := by
      have : ∃ o, wr.heap[w.heap.size]? = some o := by
        rcases hI with ⟨_, v, h, _⟩ | ⟨_, v, h, _⟩ <;> exact ⟨_, h⟩
      obtain ⟨o, ho⟩ := this
      exact (Array.getElem?_eq_some_iff.1 ho).1
    cases rest with
    | nil =>
      have hc : ¬ ((pre.length : Int) < (n : Int)) := by rw [← hn, hl]; simp
      rw [List.append_nil] at hl
      subst hl
      go_wp2_with (go_at_call 38; refine (Any.Builder_String_any_k lays169 bextra w.heap.size w.heap.size _ _ hI (by have := hb.size; omega)).mono ?_)
      rintro e W1 rfl _ b1 _
      go_wp2
      go_ret
      exact ⟨rfl, hb.trans b1⟩
    | cons t rest =>
      obtain ⟨g, o, c, T, fz, rfl, hSg, hg, hbd, hk, hd⟩ := hat pre t rest hl
      have hg' : wr.heap[g]? = some (.cells c T fz) := (hb.block g (hS g hSg)).trans hg
      have hc : ((pre.length : Int) < (n : Int)) := by rw [← hn, hl]; simp; omega
      have hp := prS_parts hl
      have hlt : pre.length < l.length := by omega
      have hlt' : pre.length < n := by omega
      have d0 := hd 0 (by omega)
      have d1 := hd 1 (by omega)
      simp only [eA1, AV.cells, List.getD_cons_zero, List.getD_cons_succ, Nat.add_zero] at d0 d1
      obtain ⟨fa, m, fcap, hm, he1, hfat⟩ := sl_at d1
      have he0 : c.getD (o + pre.length * 2) undef = .string (bs t.Name) := drep_v d0
      have c0 : wr.cell? ⟨g, o + pre.length * 2, none⟩ = some (.string (bs t.Name)) := by
        rw [Lib.cell_of_heap hg', ← he0]; simp [Array.getD, show o + pre.length * 2 < c.size by omega]
      have c1 : wr.cell? ⟨g, o + pre.length * 2 + 1, none⟩ = some (.slice fa m fcap) := by
        rw [Lib.cell_of_heap hg', ← he1]; simp [Array.getD, show o + pre.length * 2 + 1 < c.size by omega]
      go_wp2_with (go_at_call 36; refine (Any.Builder_WriteString_k lays166 bextra w.heap.size w.heap.size _ _ _ (hI.alloc _) ?_ ?_).mono ?_)
      · rw [Lib.byteCells_length, bs_size]; omega
      · have := hb.size
        simp; omega
      rintro e W1 ⟨rfl, h1, b1, k1⟩
      have ht : W1.heap[wr.heap.size]? = some (.cells #[.string (bs t.Name), .slice fa m fcap] 37 (0, 0)) :=
        k1 _ _ (heap_alloc_new wr _) (fun e => by have := Option.some.inj e; omega) (fun _ _ e => by cases e)
      have c2 : W1.cell? ⟨wr.heap.size, 1, none⟩ = some (.slice fa m fcap) := by rw [Lib.cell_of_heap ht]; rfl
      go_wp2
      go_loopw [20] (fun i wq => ∃ (pre2 rest2 : List schema_Field), t.Fields = pre2 ++ rest2 ∧ i = .int .i64 pre2.length ∧ Lib.IsBuilderF 76 5 w.heap.size w.heap.size (Lib.byteCells (prS pre ++ t.Name ++ pre2.flatMap prF)) wq ∧ Below w.heap.size w wq) (fun i _ => m - (intOf i).toNat)
      case atStart =>
        refine ⟨[], t.Fields, rfl, rfl, ?_, (hb.alloc (Nat.le_of_lt hbs) _).trans b1⟩
        rw [strCells_bs, ← Lib.byteCells_append] at h1
        simp only [List.flatMap_nil, List.append_nil]
        exact Or.inr h1
      case round =>
        obtain ⟨pre2, rest2, hl2, hi2, hI2, hb2⟩ := hrel
        subst hi2
        rename World => wq
        cases rest2 with
        | nil =>
          rw [List.append_nil] at hl2
          have hsm : (pre.length : Int) + 1 ≤ 1000000000000000 := by
            have := prS_le l
            have : pre.length < l.length := by rw [hl]; simp
            omega
          have hcf : ¬ ((pre2.length : Int) < (m : Int)) := by rw [← hm, hl2]; simp
          go_wp2_with (go_at_call 36; refine (Any.Builder_WriteString_k lays166 bextra w.heap.size w.heap.size _ _ _ hI2 ?_ ?_).mono ?_)
          · rw [Lib.byteCells_length, List.length_append, List.length_append, ← hl2]
            have : ({ data := #[10] } : ByteArray).size = 1 := rfl
            omega
          · have := hb2.size; omega
          rintro e W2 rfl h2 b2 k2
          go_wp2
          go_roundw
          case rel =>
            have hI3 : Lib.IsBuilderF 76 5 w.heap.size w.heap.size (Lib.byteCells (prS (pre ++ [t]))) W2 := by
              have e10 : Lib.strCells { data := #[10] } = Lib.byteCells [10] := rfl
              rw [e10, ← Lib.byteCells_append] at h2
              rw [prS_snoc, hl2]
              simp only [List.append_assoc] at h2 ⊢
              exact Or.inr h2
            exact ⟨pre ++ [t], rest, by rw [hl]; simp, by simp, hI3, hb2.trans b2⟩
          case measure =>
            simp only [intOf]; omega
        | cons f rest2 =>
          obtain ⟨gf, of, cf, Tf, fzf, hfa, hSf, hgf, hbdf, hkf, hdf⟩ := hfat pre2 f rest2 hl2
          subst hfa
          have hgf' : wq.heap[gf]? = some (.cells cf Tf fzf) := (hb2.block gf (hS gf hSf)).trans hgf
          have hcf : ((pre2.length : Int) < (m : Int)) := by rw [← hm, hl2]; simp; omega
          have hltf' : pre2.length < m := by omega
          have hltf : pre2.length < t.Fields.length := by omega
          have d0 := hdf 0 (by omega)
          have d1 := hdf 1 (by omega)
          simp only [eA0, AV.cells, List.getD_cons_zero, List.getD_cons_succ, Nat.add_zero] at d0 d1
          have cf0 : wq.cell? ⟨gf, of + pre2.length * 2, none⟩ = some (.string (bs f.Name)) := by
            rw [Lib.cell_of_heap hgf', ← drep_v d0]; simp [Array.getD, show of + pre2.length * 2 < cf.size by omega]
          have cf1 : wq.cell? ⟨gf, of + pre2.length * 2 + 1, none⟩ = some (.int .u8 f.Kind) := by
            rw [Lib.cell_of_heap hgf', ← drep_v d1]; simp [Array.getD, show of + pre2.length * 2 + 1 < cf.size by omega]
          go_wp2
          have hp2 := prF_parts hl2
          have q1 : 1 + (bs f.Name).size ≤ 9223372036854775807 := by rw [bs_size]; omega
          have q2 : 1 + (bs f.Name).size + 1 ≤ 9223372036854775807 := by rw [bs_size]; omega
          have q3 : 1 + (bs f.Name).size + 1 + (bs (wordB f.Kind)).size ≤ 9223372036854775807 := by rw [bs_size, bs_size]; omega
          have q4 : ¬ (9223372036854775807 < 1 + (bs f.Name).size) := by omega
          have q5 : ¬ (9223372036854775807 < 1 + (bs f.Name).size + 1) := by omega
          have q6 : ¬ (9223372036854775807 < 1 + (bs f.Name).size + 1 + (bs (wordB f.Kind)).size) := by omega
          have hq : (prS pre ++ t.Name ++ pre2.flatMap prF).length + (f.Name.length + (wordB f.Kind).length + 2) ≤ 140737488355328 := by
            simp only [List.length_append]; omega
          go_region_held3 (fun w' => w'.cell? ⟨wq.heap.size, 0, none⟩ = some (.string (bs f.Name)) ∧ w'.cell? ⟨wq.heap.size, 1, none⟩ = some (.int .u8 f.Kind)) (go_keep)
            (first
              | (go_at_call 37; refine (word_walk _ _).mono ?_; rintro e w' ⟨rfl, rfl⟩)
              | (go_at_call 36; refine (write_f hI2 hb2 hq).mono ?_; rintro e W3 ⟨rfl, h3, b3, u0, u1⟩))
          all_goals
            have hsm2 : (pre2.length : Int) + 1 ≤ 1000000000000000 := by
              have := prF_le t.Fields
              have : pre2.length < t.Fields.length := by rw [hl2]; simp
              omega
            go_wp2
            go_roundw
            case rel =>
              exact ⟨pre2 ++ [f], rest2, by rw [hl2]; simp, by simp, by rw [prF_snoc]; assumption, by assumption⟩
            case measure =>
              simp only [intOf]; omega
theorem c_schema_Print (N : Nat) : C_schema_Print.Ok prog N := by
  refine ⟨⟨Tryd.f19, Tryd.func19, by kernel_rfl, by kernel_rfl⟩, fun a r h => ?_⟩
  have h : s_schema_Print N a.1 = some r := h
  unfold s_schema_Print at h
  obtain ⟨h1, h2⟩ := gd_some h
  obtain rfl := Option.some.inj h2
  intro M S w vs hh hsz hrep
  obtain ⟨v, rfl⟩ : ∃ v, vs = #[v] := by
    match vs, hsz with
    | ⟨[v]⟩, _ => exact ⟨v, rfl⟩
  have h0 := dat_rep (hrep 0 (Nat.zero_lt_one)) rfl
  refine (print_walk S a.1 v w hh.sits h0 (Nat.le_of_ble_eq_true h1)).mono ?_
  rintro e w' ⟨rfl, hb⟩
  have hg : Grew w w' := ⟨hb.os, hb.tape, hb.output, hb.size, hb.block⟩
  exact ⟨M, S, .data (.v _), hh.grew hg, .grew hh hg⟩
end Go.Proofs.YtabploamljmibaaDoor.W
namespace Go.Proofs.YtabploamljmibaaDoor.W
open Go
open Go.Proofs.Tryd
set_option maxRecDepth 1000000
set_option linter.unusedSimpArgs false
set_option linter.unusedVariables false
noncomputable section
def F_law06_Over : Fn C_law06_Over := ⟨f6, [], ⟨[], [], sbf⟩, [], [true], none, 0, 0⟩
theorem o_law06_Over : F_law06_Over.Ok prog := ⟨Is.of (by kernel_rfl) (by kernel_rfl), by kernel_rfl, hint_sb sb_ok, trivial, trivial, fun _ => by kernel_rfl⟩
theorem c_law06_Over (N : Nat) : C_law06_Over.Ok prog N := o_law06_Over.give tb_ok hm N N trivial fun a r s h => by
  have l0 := s.loop 0 q_law06_Over_0 (f_law06_Over_0 N) N fun next0 h0 => by
    have l2 := s.loop 2 q_law06_Over_2 (f_law06_Over_2 N next0) N fun next2 h2 => by
      exact fun c v => s.seg 2 q_law06_Over_2 [(0, .of q_law06_Over_0 next0), (2, .of q_law06_Over_2 next2)] ⟨h0, h2, trivial⟩ (by kernel_rfl) (by kernel_rfl)
    exact fun c v => s.seg 0 q_law06_Over_0 [(0, .of q_law06_Over_0 next0), (2, .of q_law06_Over_2 (r_law06_Over_2 N next0))] ⟨h0, l2, trivial⟩ (by kernel_rfl) (by kernel_rfl)
  exact s.main [(0, .of q_law06_Over_0 (r_law06_Over_0 N))] ⟨l0, trivial⟩ (.trans (by kernel_rfl) h)
def F_stringslite_IndexByte : Fn C_stringslite_IndexByte := ⟨f64, [(71, .ib)], ⟨[], [], sbf⟩, [], [true], none, 0, 0⟩
theorem o_stringslite_IndexByte : F_stringslite_IndexByte.Ok prog := ⟨Is.of (by kernel_rfl) (by kernel_rfl), by kernel_rfl, hint_sb sb_ok, trivial, ⟨ExtIs.mk' f71 (by kernel_rfl) (by kernel_rfl) (by kernel_rfl) (by kernel_rfl) (by kernel_rfl), trivial⟩, fun _ => by kernel_rfl⟩
theorem c_stringslite_IndexByte (N : Nat) : C_stringslite_IndexByte.Ok prog N := o_stringslite_IndexByte.give tb_ok hm N N trivial fun a r s h => by
  exact s.main [] trivial (.trans (by kernel_rfl) h)
def F_strings_Count_v724 : Fn C_strings_Count_v724 := ⟨f59, [(70, .cs)], ⟨[], [], sbf⟩, [], [true], none, 0, 0⟩
theorem o_strings_Count_v724 : F_strings_Count_v724.Ok prog := ⟨Is.of (by kernel_rfl) (by kernel_rfl), by kernel_rfl, hint_sb sb_ok, trivial, ⟨ExtIs.mk' f70 (by kernel_rfl) (by kernel_rfl) (by kernel_rfl) (by kernel_rfl) (by kernel_rfl), trivial⟩, fun _ => by kernel_rfl⟩
theorem c_strings_Count_v724 (N : Nat) : C_strings_Count_v724.Ok prog N := o_strings_Count_v724.give tb_ok hm N N trivial fun a r s h => by
  exact s.main [] trivial (.trans (by kernel_rfl) h)
def F_value_Word : Fn C_value_Word := ⟨f37, [], ⟨[], [], sbf⟩, [], [true], none, 0, 0⟩
theorem o_value_Word : F_value_Word.Ok prog := ⟨Is.of (by kernel_rfl) (by kernel_rfl), by kernel_rfl, hint_sb sb_ok, trivial, trivial, fun _ => by kernel_rfl⟩
theorem c_value_Word (N : Nat) : C_value_Word.Ok prog N := o_value_Word.give tb_ok hm N N trivial fun a r s h => by
  exact s.main [] trivial (.trans (by kernel_rfl) h)
def F_schema_letter : Fn C_schema_letter := ⟨f43, [], ⟨[], [], sbf⟩, [], [true], none, 0, 0⟩
theorem o_schema_letter : F_schema_letter.Ok prog := ⟨Is.of (by kernel_rfl) (by kernel_rfl), by kernel_rfl, hint_sb sb_ok, trivial, trivial, fun _ => by kernel_rfl⟩
theorem c_schema_letter (N : Nat) : C_schema_letter.Ok prog N := o_schema_letter.give tb_ok hm N N trivial fun a r s h => by
  exact s.main [] trivial (.trans (by kernel_rfl) h)
def F_schema_Reserved : Fn C_schema_Reserved := ⟨f26, [], ⟨[], [], sbf⟩, [], [true], none, 0, 0⟩
theorem o_schema_Reserved : F_schema_Reserved.Ok prog := ⟨Is.of (by kernel_rfl) (by kernel_rfl), by kernel_rfl, hint_sb sb_ok, trivial, trivial, fun _ => by kernel_rfl⟩
theorem c_schema_Reserved (N : Nat) : C_schema_Reserved.Ok prog N := o_schema_Reserved.give tb_ok hm N N trivial fun a r s h => by
  exact s.main [] trivial (.trans (by kernel_rfl) h)
def F_schema_Type_Field : Fn C_schema_Type_Field := ⟨f22, [], ⟨[], [], sbf⟩, [], [true, true], none, 0, 0⟩
theorem o_schema_Type_Field : F_schema_Type_Field.Ok prog := ⟨Is.of (by kernel_rfl) (by kernel_rfl), by kernel_rfl, hint_sb sb_ok, trivial, trivial, fun _ => by kernel_rfl⟩
theorem c_schema_Type_Field (N : Nat) : C_schema_Type_Field.Ok prog N := o_schema_Type_Field.give tb_ok hm N N trivial fun a r s h => by
  have l0 := s.loop 0 q_schema_Type_Field_0 (f_schema_Type_Field_0 N) N fun next0 h0 => by
    exact fun c v => s.seg 0 q_schema_Type_Field_0 [(0, .of q_schema_Type_Field_0 next0)] ⟨h0, trivial⟩ (by kernel_rfl) (by kernel_rfl)
  exact s.main [(0, .of q_schema_Type_Field_0 (r_schema_Type_Field_0 N))] ⟨l0, trivial⟩ (.trans (by kernel_rfl) h)
theorem c_slices_Clone_schema_Field (N : Nat) : C_slices_Clone_schema_Field.Ok prog N := clone_ok (te := 35) (tb := 4) (e := 69) (CloneIs.of (fn := f33) (by kernel_rfl) (by kernel_rfl) (by kernel_rfl) (by kernel_rfl) (by kernel_rfl) (by kernel_rfl) (by decide)) hm N
def F_value_OfInt : Fn C_value_OfInt := ⟨f29, [], ⟨[], [], sbf⟩, [], [true], none, 0, 0⟩
theorem o_value_OfInt : F_value_OfInt.Ok prog := ⟨Is.of (by kernel_rfl) (by kernel_rfl), by kernel_rfl, hint_sb sb_ok, trivial, trivial, fun _ => by kernel_rfl⟩
theorem c_value_OfInt (N : Nat) : C_value_OfInt.Ok prog N := o_value_OfInt.give tb_ok hm N N trivial fun a r s h => by
  exact s.main [] trivial (.trans (by kernel_rfl) h)
def F_value_OfText : Fn C_value_OfText := ⟨f30, [], ⟨[], [], sbf⟩, [], [true], none, 0, 0⟩
theorem o_value_OfText : F_value_OfText.Ok prog := ⟨Is.of (by kernel_rfl) (by kernel_rfl), by kernel_rfl, hint_sb sb_ok, trivial, trivial, fun _ => by kernel_rfl⟩
theorem c_value_OfText (N : Nat) : C_value_OfText.Ok prog N := o_value_OfText.give tb_ok hm N N trivial fun a r s h => by
  exact s.main [] trivial (.trans (by kernel_rfl) h)
def F_value_core : Fn C_value_core := ⟨f48, [], ⟨[], [], sbf⟩, [], [false], none, 0, 0⟩
theorem o_value_core : F_value_core.Ok prog := ⟨Is.of (by kernel_rfl) (by kernel_rfl), by kernel_rfl, hint_sb sb_ok, trivial, trivial, fun _ => by kernel_rfl⟩
theorem c_value_core (N : Nat) : C_value_core.Ok prog N := o_value_core.give tb_ok hm N N trivial fun a r s h => by
  exact s.main [] trivial (.trans (by kernel_rfl) h)
def F_value_number_whole : Fn C_value_number_whole := ⟨f91, [], ⟨[], [], sbf⟩, [], [true], none, 0, 0⟩
theorem o_value_number_whole : F_value_number_whole.Ok prog := ⟨Is.of (by kernel_rfl) (by kernel_rfl), by kernel_rfl, hint_sb sb_ok, trivial, trivial, fun _ => by kernel_rfl⟩
theorem c_value_number_whole (N : Nat) : C_value_number_whole.Ok prog N := o_value_number_whole.give tb_ok hm N N trivial fun a r s h => by
  exact s.main [] trivial (.trans (by kernel_rfl) h)
def F_value_flag_whole : Fn C_value_flag_whole := ⟨f92, [], ⟨[], [], sbf⟩, [], [true], none, 0, 0⟩
theorem o_value_flag_whole : F_value_flag_whole.Ok prog := ⟨Is.of (by kernel_rfl) (by kernel_rfl), by kernel_rfl, hint_sb sb_ok, trivial, trivial, fun _ => by kernel_rfl⟩
theorem c_value_flag_whole (N : Nat) : C_value_flag_whole.Ok prog N := o_value_flag_whole.give tb_ok hm N N trivial fun a r s h => by
  exact s.main [] trivial (.trans (by kernel_rfl) h)
def F_real_of : Fn C_real_of := ⟨f54, [(61, .fb)], ⟨[], [], sbf⟩, [], [true], none, 0, 0⟩
theorem o_real_of : F_real_of.Ok prog := ⟨Is.of (by kernel_rfl) (by kernel_rfl), by kernel_rfl, hint_sb sb_ok, trivial, ⟨ExtIs.mk' f61 (by kernel_rfl) (by kernel_rfl) (by kernel_rfl) (by kernel_rfl) (by kernel_rfl), trivial⟩, fun _ => by kernel_rfl⟩
theorem c_real_of (N : Nat) : C_real_of.Ok prog N := o_real_of.give tb_ok hm N N trivial fun a r s h => by
  exact s.main [] trivial (.trans (by kernel_rfl) h)
def F_value_double_whole : Fn C_value_double_whole := ⟨f93, [], ⟨[], [], sbf⟩, [], [true], none, 0, 0⟩
theorem o_value_double_whole : F_value_double_whole.Ok prog := ⟨Is.of (by kernel_rfl) (by kernel_rfl), by kernel_rfl, hint_sb sb_ok, trivial, trivial, fun _ => by kernel_rfl⟩
theorem c_value_double_whole (N : Nat) : C_value_double_whole.Ok prog N := o_value_double_whole.give tb_ok hm N N trivial fun a r s h => by
  exact s.main [] trivial (.trans (by kernel_rfl) h)
def F_value_words_whole : Fn C_value_words_whole := ⟨f94, [], ⟨[], [], sbf⟩, [], [true], none, 0, 0⟩
theorem o_value_words_whole : F_value_words_whole.Ok prog := ⟨Is.of (by kernel_rfl) (by kernel_rfl), by kernel_rfl, hint_sb sb_ok, trivial, trivial, fun _ => by kernel_rfl⟩
theorem c_value_words_whole (N : Nat) : C_value_words_whole.Ok prog N := o_value_words_whole.give tb_ok hm N N trivial fun a r s h => by
  exact s.main [] trivial (.trans (by kernel_rfl) h)
def F_law06_Own : Fn C_law06_Own := ⟨f10, [], ⟨[(39, 0), (44, 1)], [], sbf⟩, [], [true], none, 0, 0⟩
theorem o_law06_Own : F_law06_Own.Ok prog := ⟨Is.of (by kernel_rfl) (by kernel_rfl), by kernel_rfl, hint_sb sb_ok, trivial, trivial, fun _ => by kernel_rfl⟩
theorem c_law06_Own (N : Nat) : C_law06_Own.Ok prog N := o_law06_Own.give tb_ok hm N N trivial fun a r s h => by
  have l0 := s.loop 0 q_law06_Own_0 (f_law06_Own_0 N) N fun next0 h0 => by
    have l2 := s.loop 2 q_law06_Own_2 (f_law06_Own_2 N next0) N fun next2 h2 => by
      exact fun c v => s.seg 2 q_law06_Own_2 [(0, .of q_law06_Own_0 next0), (2, .of q_law06_Own_2 next2)] ⟨h0, h2, trivial⟩ (by kernel_rfl) (by kernel_rfl)
    exact fun c v => s.seg 0 q_law06_Own_0 [(0, .of q_law06_Own_0 next0), (2, .of q_law06_Own_2 (r_law06_Own_2 N next0))] ⟨h0, l2, trivial⟩ (by kernel_rfl) (by kernel_rfl)
  exact s.main [(0, .of q_law06_Own_0 (r_law06_Own_0 N))] ⟨l0, trivial⟩ (.trans (by kernel_rfl) h)
def F_slices_Equal_schema_Field : Fn C_slices_Equal_schema_Field := ⟨f42, [], ⟨[], [], sbf⟩, [], [true], none, 0, 0⟩
theorem o_slices_Equal_schema_Field : F_slices_Equal_schema_Field.Ok prog := ⟨Is.of (by kernel_rfl) (by kernel_rfl), by kernel_rfl, hint_sb sb_ok, trivial, trivial, fun _ => by kernel_rfl⟩
theorem c_slices_Equal_schema_Field (N : Nat) : C_slices_Equal_schema_Field.Ok prog N := o_slices_Equal_schema_Field.give tb_ok hm N N trivial fun a r s h => by
  have l0 := s.loop 0 q_slices_Equal_schema_Field_0 (f_slices_Equal_schema_Field_0 N) N fun next0 h0 => by
    exact fun c v => s.seg 0 q_slices_Equal_schema_Field_0 [(0, .of q_slices_Equal_schema_Field_0 next0)] ⟨h0, trivial⟩ (by kernel_rfl) (by kernel_rfl)
  exact s.main [(0, .of q_slices_Equal_schema_Field_0 (r_slices_Equal_schema_Field_0 N))] ⟨l0, trivial⟩ (.trans (by kernel_rfl) h)
def F_stringslite_Index_v860 : Fn C_stringslite_Index_v860 := ⟨f57, [], ⟨[], [], sbf⟩, [C_stringslite_IndexByte], [true], none, 0, 0⟩
theorem o_stringslite_Index_v860 : F_stringslite_Index_v860.Ok prog := ⟨Is.of (by kernel_rfl) (by kernel_rfl), by kernel_rfl, hint_sb sb_ok, trivial, trivial, fun _ => by kernel_rfl⟩
theorem c_stringslite_Index_v860 (N : Nat) : C_stringslite_Index_v860.Ok prog N := o_stringslite_Index_v860.give tb_ok hm N N ⟨c_stringslite_IndexByte N, trivial⟩ fun a r s h => by
  exact s.main [] trivial (.trans (by kernel_rfl) h)
def F_stringslite_Index_v724 : Fn C_stringslite_Index_v724 := ⟨f57, [], ⟨[], [], sbf⟩, [C_stringslite_IndexByte], [true], none, 0, 0⟩
theorem o_stringslite_Index_v724 : F_stringslite_Index_v724.Ok prog := ⟨Is.of (by kernel_rfl) (by kernel_rfl), by kernel_rfl, hint_sb sb_ok, trivial, trivial, fun _ => by kernel_rfl⟩
theorem c_stringslite_Index_v724 (N : Nat) : C_stringslite_Index_v724.Ok prog N := o_stringslite_Index_v724.give tb_ok hm N N ⟨c_stringslite_IndexByte N, trivial⟩ fun a r s h => by
  exact s.main [] trivial (.trans (by kernel_rfl) h)
def F_stringslite_Index_v682 : Fn C_stringslite_Index_v682 := ⟨f57, [], ⟨[], [], sbf⟩, [C_stringslite_IndexByte], [true], none, 0, 0⟩
theorem o_stringslite_Index_v682 : F_stringslite_Index_v682.Ok prog := ⟨Is.of (by kernel_rfl) (by kernel_rfl), by kernel_rfl, hint_sb sb_ok, trivial, trivial, fun _ => by kernel_rfl⟩
theorem c_stringslite_Index_v682 (N : Nat) : C_stringslite_Index_v682.Ok prog N := o_stringslite_Index_v682.give tb_ok hm N N ⟨c_stringslite_IndexByte N, trivial⟩ fun a r s h => by
  exact s.main [] trivial (.trans (by kernel_rfl) h)
end
end Go.Proofs.YtabploamljmibaaDoor.W
namespace Go.Proofs.YtabploamljmibaaDoor.W
open Go
open Go.Proofs.Tryd
set_option maxRecDepth 1000000
set_option linter.unusedSimpArgs false
set_option linter.unusedVariables false
noncomputable section
def F_schema_kindOf : Fn C_schema_kindOf := ⟨f47, [], ⟨[], [], sbf⟩, [C_value_Word], [true], none, 0, 0⟩
theorem o_schema_kindOf : F_schema_kindOf.Ok prog := ⟨Is.of (by kernel_rfl) (by kernel_rfl), by kernel_rfl, hint_sb sb_ok, trivial, trivial, fun _ => by kernel_rfl⟩
theorem c_schema_kindOf (N : Nat) : C_schema_kindOf.Ok prog N := o_schema_kindOf.give tb_ok hm N N ⟨c_value_Word N, trivial⟩ fun a r s h => by
  have l0 := s.loop 0 q_schema_kindOf_0 (f_schema_kindOf_0 N) N fun next0 h0 => by
    exact fun c v => s.seg 0 q_schema_kindOf_0 [(0, .of q_schema_kindOf_0 next0)] ⟨h0, trivial⟩ (by kernel_rfl) (by kernel_rfl)
  exact s.main [(0, .of q_schema_kindOf_0 (r_schema_kindOf_0 N))] ⟨l0, trivial⟩ (.trans (by kernel_rfl) h)
def F_schema_tail : Fn C_schema_tail := ⟨f44, [], ⟨[], [], sbf⟩, [C_schema_letter], [true], none, 0, 0⟩
theorem o_schema_tail : F_schema_tail.Ok prog := ⟨Is.of (by kernel_rfl) (by kernel_rfl), by kernel_rfl, hint_sb sb_ok, trivial, trivial, fun _ => by kernel_rfl⟩
theorem c_schema_tail (N : Nat) : C_schema_tail.Ok prog N := o_schema_tail.give tb_ok hm N N ⟨c_schema_letter N, trivial⟩ fun a r s h => by
  exact s.main [] trivial (.trans (by kernel_rfl) h)
def F_schema_Find : Fn C_schema_Find := ⟨f13, [], ⟨[], [], sbf⟩, [C_slices_Clone_schema_Field], [true, true], none, 0, 0⟩
theorem o_schema_Find : F_schema_Find.Ok prog := ⟨Is.of (by kernel_rfl) (by kernel_rfl), by kernel_rfl, hint_sb sb_ok, trivial, trivial, fun _ => by kernel_rfl⟩
theorem c_schema_Find (N : Nat) : C_schema_Find.Ok prog N := o_schema_Find.give tb_ok hm N N ⟨c_slices_Clone_schema_Field N, trivial⟩ fun a r s h => by
  have l0 := s.loop 0 q_schema_Find_0 (f_schema_Find_0 N) N fun next0 h0 => by
    exact fun c v => s.seg 0 q_schema_Find_0 [(0, .of q_schema_Find_0 next0)] ⟨h0, trivial⟩ (by kernel_rfl) (by kernel_rfl)
  exact s.main [(0, .of q_schema_Find_0 (r_schema_Find_0 N))] ⟨l0, trivial⟩ (.trans (by kernel_rfl) h)
def F_real_Clean : Fn C_real_Clean := ⟨f49, [], ⟨[], [], sbf⟩, [C_real_of], [true], none, 0, 0⟩
theorem o_real_Clean : F_real_Clean.Ok prog := ⟨Is.of (by kernel_rfl) (by kernel_rfl), by kernel_rfl, hint_sb sb_ok, trivial, trivial, fun _ => by kernel_rfl⟩
theorem c_real_Clean (N : Nat) : C_real_Clean.Ok prog N := o_real_Clean.give tb_ok hm N N ⟨c_real_of N, trivial⟩ fun a r s h => by
  exact s.main [] trivial (.trans (by kernel_rfl) h)
def F_schema_Same_L1 : Fn C_schema_Same_L1 := ⟨f41, [], ⟨[], [], sbf⟩, [C_slices_Equal_schema_Field], [true], none, 0, 0⟩
theorem o_schema_Same_L1 : F_schema_Same_L1.Ok prog := ⟨Is.of (by kernel_rfl) (by kernel_rfl), by kernel_rfl, hint_sb sb_ok, trivial, trivial, fun _ => by kernel_rfl⟩
theorem c_schema_Same_L1 (N : Nat) : C_schema_Same_L1.Ok prog N := o_schema_Same_L1.give tb_ok hm N N ⟨c_slices_Equal_schema_Field N, trivial⟩ fun a r s h => by
  exact s.main [] trivial (.trans (by kernel_rfl) h)
def F_stringslite_Cut_v860 : Fn C_stringslite_Cut_v860 := ⟨f52, [], ⟨[], [], sbf⟩, [C_stringslite_Index_v860], [true, true, true], none, 0, 0⟩
theorem o_stringslite_Cut_v860 : F_stringslite_Cut_v860.Ok prog := ⟨Is.of (by kernel_rfl) (by kernel_rfl), by kernel_rfl, hint_sb sb_ok, trivial, trivial, fun _ => by kernel_rfl⟩
theorem c_stringslite_Cut_v860 (N : Nat) : C_stringslite_Cut_v860.Ok prog N := o_stringslite_Cut_v860.give tb_ok hm N N ⟨c_stringslite_Index_v860 N, trivial⟩ fun a r s h => by
  exact s.main [] trivial (.trans (by kernel_rfl) h)
def F_strings_Index_v724 : Fn C_strings_Index_v724 := ⟨f60, [], ⟨[], [], sbf⟩, [C_stringslite_Index_v724], [true], none, 0, 0⟩
theorem o_strings_Index_v724 : F_strings_Index_v724.Ok prog := ⟨Is.of (by kernel_rfl) (by kernel_rfl), by kernel_rfl, hint_sb sb_ok, trivial, trivial, fun _ => by kernel_rfl⟩
theorem c_strings_Index_v724 (N : Nat) : C_strings_Index_v724.Ok prog N := o_strings_Index_v724.give tb_ok hm N N ⟨c_stringslite_Index_v724 N, trivial⟩ fun a r s h => by
  exact s.main [] trivial (.trans (by kernel_rfl) h)
def F_stringslite_Cut_v682 : Fn C_stringslite_Cut_v682 := ⟨f52, [], ⟨[], [], sbf⟩, [C_stringslite_Index_v682], [true, true, true], none, 0, 0⟩
theorem o_stringslite_Cut_v682 : F_stringslite_Cut_v682.Ok prog := ⟨Is.of (by kernel_rfl) (by kernel_rfl), by kernel_rfl, hint_sb sb_ok, trivial, trivial, fun _ => by kernel_rfl⟩
theorem c_stringslite_Cut_v682 (N : Nat) : C_stringslite_Cut_v682.Ok prog N := o_stringslite_Cut_v682.give tb_ok hm N N ⟨c_stringslite_Index_v682 N, trivial⟩ fun a r s h => by
  exact s.main [] trivial (.trans (by kernel_rfl) h)
def F_schema_Name : Fn C_schema_Name := ⟨f24, [], ⟨[], [], sbf⟩, [C_schema_letter, C_schema_Reserved, C_schema_tail], [true], none, 0, 0⟩
theorem o_schema_Name : F_schema_Name.Ok prog := ⟨Is.of (by kernel_rfl) (by kernel_rfl), by kernel_rfl, hint_sb sb_ok, trivial, trivial, fun _ => by kernel_rfl⟩
theorem c_schema_Name (N : Nat) : C_schema_Name.Ok prog N := o_schema_Name.give tb_ok hm N N ⟨c_schema_letter N, c_schema_Reserved N, c_schema_tail N, trivial⟩ fun a r s h => by
  have l0 := s.loop 0 q_schema_Name_0 (f_schema_Name_0 N) N fun next0 h0 => by
    exact fun c v => s.seg 0 q_schema_Name_0 [(0, .of q_schema_Name_0 next0)] ⟨h0, trivial⟩ (by kernel_rfl) (by kernel_rfl)
  exact s.main [(0, .of q_schema_Name_0 (r_schema_Name_0 N))] ⟨l0, trivial⟩ (.trans (by kernel_rfl) h)
def F_value_Check : Fn C_value_Check := ⟨f31, [], ⟨[], [], sbf⟩, [C_value_core, C_value_number_whole, C_value_flag_whole, C_real_Clean, C_value_double_whole, C_value_words_whole], [true], none, 0, 0⟩
theorem o_value_Check : F_value_Check.Ok prog := ⟨Is.of (by kernel_rfl) (by kernel_rfl), by kernel_rfl, hint_sb sb_ok, trivial, trivial, fun _ => by kernel_rfl⟩
theorem c_value_Check (N : Nat) : C_value_Check.Ok prog N := o_value_Check.give tb_ok hm N N ⟨c_value_core N, c_value_number_whole N, c_value_flag_whole N, c_real_Clean N, c_value_double_whole N, c_value_words_whole N, trivial⟩ fun a r s h => by
  exact s.main [] trivial (.trans (by kernel_rfl) h)
def F_slices_EqualFunc_schema_Type_v029 : Fn C_slices_EqualFunc_schema_Type_v029 := ⟨f40, [], ⟨[], [], sbf⟩, [C_schema_Same_L1], [true], none, 0, 0⟩
theorem o_slices_EqualFunc_schema_Type_v029 : F_slices_EqualFunc_schema_Type_v029.Ok prog := ⟨Is.of (by kernel_rfl) (by kernel_rfl), by kernel_rfl, hint_sb sb_ok, trivial, trivial, fun _ => by kernel_rfl⟩
theorem c_slices_EqualFunc_schema_Type_v029 (N : Nat) : C_slices_EqualFunc_schema_Type_v029.Ok prog N := o_slices_EqualFunc_schema_Type_v029.give tb_ok hm N N ⟨c_schema_Same_L1 N, trivial⟩ fun a r s h => by
  have l0 := s.loop 0 q_slices_EqualFunc_schema_Type_v029_0 (f_slices_EqualFunc_schema_Type_v029_0 N) N fun next0 h0 => by
    exact fun c v => s.seg 0 q_slices_EqualFunc_schema_Type_v029_0 [(0, .of q_slices_EqualFunc_schema_Type_v029_0 next0)] ⟨h0, trivial⟩ (by kernel_rfl) (by kernel_rfl)
  exact s.main [(0, .of q_slices_EqualFunc_schema_Type_v029_0 (r_slices_EqualFunc_schema_Type_v029_0 N))] ⟨l0, trivial⟩ (.trans (by kernel_rfl) h)
def F_strings_Cut_v860 : Fn C_strings_Cut_v860 := ⟨f45, [], ⟨[], [], sbf⟩, [C_stringslite_Cut_v860], [true, true, true], none, 0, 0⟩
theorem o_strings_Cut_v860 : F_strings_Cut_v860.Ok prog := ⟨Is.of (by kernel_rfl) (by kernel_rfl), by kernel_rfl, hint_sb sb_ok, trivial, trivial, fun _ => by kernel_rfl⟩
theorem c_strings_Cut_v860 (N : Nat) : C_strings_Cut_v860.Ok prog N := o_strings_Cut_v860.give tb_ok hm N N ⟨c_stringslite_Cut_v860 N, trivial⟩ fun a r s h => by
  exact s.main [] trivial (.trans (by kernel_rfl) h)
def F_strings_genSplit_v997 : Fn C_strings_genSplit_v997 := ⟨f53, [], ⟨[], [(87, ⟨2, ([] : List UInt8), 16⟩)], sbf⟩, [C_strings_Count_v724, C_strings_Index_v724], [true], none, 0, 0⟩
theorem o_strings_genSplit_v997 : F_strings_genSplit_v997.Ok prog := ⟨Is.of (by kernel_rfl) (by kernel_rfl), by kernel_rfl, hint_sb sb_ok, ⟨⟨[0], by kernel_rfl⟩, trivial⟩, trivial, fun _ => by kernel_rfl⟩
theorem c_strings_genSplit_v997 (N : Nat) : C_strings_genSplit_v997.Ok prog N := o_strings_genSplit_v997.give tb_ok hm N N ⟨c_strings_Count_v724 N, c_strings_Index_v724 N, trivial⟩ fun a r s h => by
  have l0 := s.loop 0 q_strings_genSplit_v997_0 (f_strings_genSplit_v997_0 N) N fun next0 h0 => by
    exact fun c v => s.seg 0 q_strings_genSplit_v997_0 [(0, .of q_strings_genSplit_v997_0 next0)] ⟨h0, trivial⟩ (by kernel_rfl) (by kernel_rfl)
  exact s.main [(0, .of q_strings_genSplit_v997_0 (r_strings_genSplit_v997_0 N))] ⟨l0, trivial⟩ (.trans (by kernel_rfl) h)
def F_strings_Cut_v682 : Fn C_strings_Cut_v682 := ⟨f45, [], ⟨[], [], sbf⟩, [C_stringslite_Cut_v682], [true, true, true], none, 0, 0⟩
theorem o_strings_Cut_v682 : F_strings_Cut_v682.Ok prog := ⟨Is.of (by kernel_rfl) (by kernel_rfl), by kernel_rfl, hint_sb sb_ok, trivial, trivial, fun _ => by kernel_rfl⟩
theorem c_strings_Cut_v682 (N : Nat) : C_strings_Cut_v682.Ok prog N := o_strings_Cut_v682.give tb_ok hm N N ⟨c_stringslite_Cut_v682 N, trivial⟩ fun a r s h => by
  exact s.main [] trivial (.trans (by kernel_rfl) h)
def F_schema_Type_check : Fn C_schema_Type_check := ⟨f34, [], ⟨[], [], sbf⟩, [C_schema_Name, C_schema_Type_Field, C_value_Word], [true], none, 0, 0⟩
theorem o_schema_Type_check : F_schema_Type_check.Ok prog := ⟨Is.of (by kernel_rfl) (by kernel_rfl), by kernel_rfl, hint_sb sb_ok, trivial, trivial, fun _ => by kernel_rfl⟩
theorem c_schema_Type_check (N : Nat) : C_schema_Type_check.Ok prog N := o_schema_Type_check.give tb_ok hm N N ⟨c_schema_Name N, c_schema_Type_Field N, c_value_Word N, trivial⟩ fun a r s h => by
  have l0 := s.loop 0 q_schema_Type_check_0 (f_schema_Type_check_0 N) N fun next0 h0 => by
    exact fun c v => s.seg 0 q_schema_Type_check_0 [(0, .of q_schema_Type_check_0 next0)] ⟨h0, trivial⟩ (by kernel_rfl) (by kernel_rfl)
  exact s.main [(0, .of q_schema_Type_check_0 (r_schema_Type_check_0 N))] ⟨l0, trivial⟩ (.trans (by kernel_rfl) h)
def F_schema_Fits : Fn C_schema_Fits := ⟨f9, [], ⟨[], [], sbf⟩, [C_value_Check], [true], none, 0, 0⟩
theorem o_schema_Fits : F_schema_Fits.Ok prog := ⟨Is.of (by kernel_rfl) (by kernel_rfl), by kernel_rfl, hint_sb sb_ok, trivial, trivial, fun _ => by kernel_rfl⟩
theorem c_schema_Fits (N : Nat) : C_schema_Fits.Ok prog N := o_schema_Fits.give tb_ok hm N N ⟨c_value_Check N, trivial⟩ fun a r s h => by
  have l0 := s.loop 0 q_schema_Fits_0 (f_schema_Fits_0 N) N fun next0 h0 => by
    exact fun c v => s.seg 0 q_schema_Fits_0 [(0, .of q_schema_Fits_0 next0)] ⟨h0, trivial⟩ (by kernel_rfl) (by kernel_rfl)
  exact s.main [(0, .of q_schema_Fits_0 (r_schema_Fits_0 N))] ⟨l0, trivial⟩ (.trans (by kernel_rfl) h)
def F_schema_Same : Fn C_schema_Same := ⟨f21, [], ⟨[], [], sbf⟩, [C_slices_EqualFunc_schema_Type_v029], [true], none, 0, 0⟩
theorem o_schema_Same : F_schema_Same.Ok prog := ⟨Is.of (by kernel_rfl) (by kernel_rfl), by kernel_rfl, hint_sb sb_ok, trivial, trivial, fun _ => by kernel_rfl⟩
theorem c_schema_Same (N : Nat) : C_schema_Same.Ok prog N := o_schema_Same.give tb_ok hm N N ⟨c_slices_EqualFunc_schema_Type_v029 N, trivial⟩ fun a r s h => by
  exact s.main [] trivial (.trans (by kernel_rfl) h)
def F_strings_Split_v724 : Fn C_strings_Split_v724 := ⟨f46, [], ⟨[], [], sbf⟩, [C_strings_genSplit_v997], [true], none, 0, 0⟩
theorem o_strings_Split_v724 : F_strings_Split_v724.Ok prog := ⟨Is.of (by kernel_rfl) (by kernel_rfl), by kernel_rfl, hint_sb sb_ok, trivial, trivial, fun _ => by kernel_rfl⟩
theorem c_strings_Split_v724 (N : Nat) : C_strings_Split_v724.Ok prog N := o_strings_Split_v724.give tb_ok hm N N ⟨c_strings_genSplit_v997 N, trivial⟩ fun a r s h => by
  exact s.main [] trivial (.trans (by kernel_rfl) h)
end
end Go.Proofs.YtabploamljmibaaDoor.W
namespace Go.Proofs.YtabploamljmibaaDoor.W
open Go
open Go.Proofs.Tryd
set_option maxRecDepth 1000000
set_option linter.unusedSimpArgs false
set_option linter.unusedVariables false
noncomputable section
def F_schema_Check : Fn C_schema_Check := ⟨f17, [], ⟨[], [], sbf⟩, [C_schema_Type_check, C_schema_Find], [true], none, 0, 0⟩
theorem o_schema_Check : F_schema_Check.Ok prog := ⟨Is.of (by kernel_rfl) (by kernel_rfl), by kernel_rfl, hint_sb sb_ok, trivial, trivial, fun _ => by kernel_rfl⟩
theorem c_schema_Check (N : Nat) : C_schema_Check.Ok prog N := o_schema_Check.give tb_ok hm N N ⟨c_schema_Type_check N, c_schema_Find N, trivial⟩ fun a r s h => by
  have l0 := s.loop 0 q_schema_Check_0 (f_schema_Check_0 N) N fun next0 h0 => by
    exact fun c v => s.seg 0 q_schema_Check_0 [(0, .of q_schema_Check_0 next0)] ⟨h0, trivial⟩ (by kernel_rfl) (by kernel_rfl)
  exact s.main [(0, .of q_schema_Check_0 (r_schema_Check_0 N))] ⟨l0, trivial⟩ (.trans (by kernel_rfl) h)
def F_schema_Parse : Fn C_schema_Parse := ⟨f28, [], ⟨[(58, 0), (66, 1)], [], sbf⟩, [C_strings_Cut_v860, C_strings_Split_v724, C_strings_Cut_v682, C_schema_kindOf, C_schema_Check], [true, true], none, 0, 0⟩
theorem o_schema_Parse : F_schema_Parse.Ok prog := ⟨Is.of (by kernel_rfl) (by kernel_rfl), by kernel_rfl, hint_sb sb_ok, trivial, trivial, fun _ => by kernel_rfl⟩
theorem c_schema_Parse (N : Nat) : C_schema_Parse.Ok prog N := o_schema_Parse.give tb_ok hm N N ⟨c_strings_Cut_v860 N, c_strings_Split_v724 N, c_strings_Cut_v682 N, c_schema_kindOf N, c_schema_Check N, trivial⟩ fun a r s h => by
  have l0 := s.loop 0 q_schema_Parse_0 (f_schema_Parse_0 N) N fun next0 h0 => by
    have l2 := s.loop 2 q_schema_Parse_2 (f_schema_Parse_2 N next0) N fun next2 h2 => by
      exact fun c v => s.seg 2 q_schema_Parse_2 [(0, .of q_schema_Parse_0 next0), (2, .of q_schema_Parse_2 next2)] ⟨h0, h2, trivial⟩ (by kernel_rfl) (by kernel_rfl)
    exact fun c v => s.seg 0 q_schema_Parse_0 [(0, .of q_schema_Parse_0 next0), (2, .of q_schema_Parse_2 (r_schema_Parse_2 N next0))] ⟨h0, l2, trivial⟩ (by kernel_rfl) (by kernel_rfl)
  exact s.main [(0, .of q_schema_Parse_0 (r_schema_Parse_0 N))] ⟨l0, trivial⟩ (.trans (by kernel_rfl) h)
def F_law06_awake : Fn C_law06_awake := ⟨f7, [], ⟨[(82, 3), (92, 3)], [], sbf⟩, [C_schema_Parse, C_schema_Type_Field, C_schema_Find, C_value_OfInt, C_value_OfText, C_schema_Fits, C_schema_Print, C_schema_Name, C_schema_Reserved], [true], none, 0, 0⟩
theorem o_law06_awake : F_law06_awake.Ok prog := ⟨Is.of (by kernel_rfl) (by kernel_rfl), by kernel_rfl, hint_sb sb_ok, trivial, trivial, fun _ => by kernel_rfl⟩
theorem c_law06_awake (N : Nat) : C_law06_awake.Ok prog N := o_law06_awake.give tb_ok hm N N ⟨c_schema_Parse N, c_schema_Type_Field N, c_schema_Find N, c_value_OfInt N, c_value_OfText N, c_schema_Fits N, c_schema_Print N, c_schema_Name N, c_schema_Reserved N, trivial⟩ fun a r s h => by
  exact s.main [] trivial (.trans (by kernel_rfl) h)
def F_law06_SchemaBack : Fn C_law06_SchemaBack := ⟨f5, [], ⟨[], [], sbf⟩, [C_law06_Over, C_law06_awake, C_schema_Parse, C_schema_Print, C_schema_Check, C_law06_Own, C_schema_Same], [true], none, 0, 0⟩
theorem o_law06_SchemaBack : F_law06_SchemaBack.Ok prog := ⟨Is.of (by kernel_rfl) (by kernel_rfl), by kernel_rfl, hint_sb sb_ok, trivial, trivial, fun _ => by kernel_rfl⟩
theorem c_law06_SchemaBack (N : Nat) : C_law06_SchemaBack.Ok prog N := o_law06_SchemaBack.give tb_ok hm N N ⟨c_law06_Over N, c_law06_awake N, c_schema_Parse N, c_schema_Print N, c_schema_Check N, c_law06_Own N, c_schema_Same N, trivial⟩ fun a r s h => by
  exact s.main [] trivial (.trans (by kernel_rfl) h)
end
end Go.Proofs.YtabploamljmibaaDoor.W
