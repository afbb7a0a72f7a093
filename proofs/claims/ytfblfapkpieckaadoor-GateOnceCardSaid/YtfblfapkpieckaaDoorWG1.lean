/- The code, and what each function of it is walked to. No premise beyond what each theorem says. -/
import Derived.Test.YtfblfapkpieckaaDoorWA3
import Derived.Test.YtfblfapkpieckaaDoorProg
set_option linter.all false
set_option linter.unusedSimpArgs false
set_option linter.unusedVariables false
namespace Go.Proofs.YtfblfapkpieckaaDoor.W
open Go
open Go.Proofs.Tryd
set_option maxRecDepth 1000000
set_option linter.unusedSimpArgs false
set_option linter.unusedVariables false
noncomputable section
structure schema_Field where
  Name : List UInt8
  Kind : Int
structure schema_Type where
  Name : List UInt8
  Fields : List schema_Field
structure value_Value where
  Kind : Int
  N : Int
  Bits : Int
  Text : List UInt8
structure event_Event where
  Time : Int
  Source : Int
  Seq : Int
  Type_ : List UInt8
  Vals : List value_Value
structure law32_Op where
  Kind : Int
  S : Int
  A : Int
  E : event_Event
structure gate_Source where
  Front : Int
  Last : Int
  Closed : Bool
structure gate_Gate where
  Types : List schema_Type
  L : List gate_Source
structure event_ID where
  Time : Int
  Source : Int
  Seq : Int
def s_law06_Over_2 (N : Nat) (l : List schema_Type) (i : Int) (next0 : Int → Option Int) (next2 : Int → Option Int) (k : Int) : Option Int :=
  (ix l i).bind fun e3 =>
  bif (ltB k (List.length e3.Fields : Int)) then
   (ix l i).bind fun e4 =>
   (ix e4.Fields k).bind fun e5 =>
   bif (ltB 40 (List.length e5.Name : Int)) then
    some 1
   else
    gd (i64b (k + 1)) (
    next2 (k + 1))
  else
   gd (i64b (i + 1)) (
   next0 (i + 1))
def s_law06_Over_1 (N : Nat) (l : List schema_Type) (next0 : Int → Option Int) (i : Int) : Option Int :=
  bif (ltB i (List.length l : Int)) then
   (ix l i).bind fun e =>
   bif (ltB 40 (List.length e.Name : Int)) then
    some 1
   else
    (ix l i).bind fun e2 =>
    bif (ltB 12 (List.length e2.Fields : Int)) then
     some 1
    else
     lp1 (s_law06_Over_2 N l i next0) N 0
  else
   some 0
def s_law06_Over (N : Nat) (l : List schema_Type) : Option Int :=
  bif (ltB 12 (List.length l : Int)) then
   some 1
  else
   lp1 (s_law06_Over_1 N l) N 0
def s_stringslite_IndexByte (N : Nat) (s : List UInt8) (c : Int) : Option Int :=
  some (Lib.indexByte s (UInt8.ofNat (Int.toNat c)))
def s_stringslite_Index_v860 (N : Nat) (s : List UInt8) : Option Int :=
  bif (([10] : List UInt8) == s) then
   some 0
  else
   (s_stringslite_IndexByte N s 10).bind fun inde =>
   some inde
def s_stringslite_Cut_v860 (N : Nat) (s : List UInt8) : Option (List UInt8 × List UInt8 × Bool) :=
  (s_stringslite_Index_v860 N s).bind fun inde =>
  bif (leB 0 inde) then
   gd (leB 0 inde) (
   gd (leB inde (List.length s : Int)) (
   gd (i64b (inde + 1)) (
   gd (leB 0 (inde + 1)) (
   gd (leB (inde + 1) (List.length s : Int)) (
   some ((List.take (Int.toNat inde) s), (List.drop (Int.toNat (inde + 1)) s), true))))))
  else
   some (s, [], false)
def s_strings_Cut_v860 (N : Nat) (s : List UInt8) : Option (List UInt8 × List UInt8 × Bool) :=
  (s_stringslite_Cut_v860 N s).bind fun cut =>
  some (cut.1, cut.2.1, cut.2.2)
def s_strings_Count_v724 (N : Nat) (s : List UInt8) : Option Int :=
  some ((Lib.countByte s (UInt8.ofNat (Int.toNat 32)) : Nat) : Int)
def s_stringslite_Index_v724 (N : Nat) (s : List UInt8) : Option Int :=
  bif (([32] : List UInt8) == s) then
   some 0
  else
   (s_stringslite_IndexByte N s 32).bind fun inde =>
   some inde
def s_strings_Index_v724 (N : Nat) (s : List UInt8) : Option Int :=
  (s_stringslite_Index_v724 N s).bind fun inde =>
  some inde
def s_strings_genSplit_v997_1 (N : Nat) (sepSave : Int) (n2 : Int) (next0 : (List UInt8) → Int → (List (List UInt8)) → Option (List (List UInt8))) (s2 : List UInt8) (i : Int) (ys : List (List UInt8)) : Option (List (List UInt8)) :=
  bif (ltB i n2) then
   (s_strings_Index_v724 N s2).bind fun inde =>
   bif (ltB inde 0) then
    (ix ys i).bind fun e =>
    (ix ys i).bind fun e2 =>
    gd (i64b (i + 1)) (
    gd (leB 0 (i + 1)) (
    gd (leB (i + 1) (List.length (List.set ys (Int.toNat i) s2) : Int)) (
    some (List.take (Int.toNat (i + 1)) (List.set ys (Int.toNat i) s2)))))
   else
    gd (i64b (inde + sepSave)) (
    gd (leB 0 (inde + sepSave)) (
    gd (leB (inde + sepSave) (List.length s2 : Int)) (
    (ix ys i).bind fun e3 =>
    (ix ys i).bind fun e4 =>
    gd (i64b (inde + 1)) (
    gd (leB 0 (inde + 1)) (
    gd (leB (inde + 1) (List.length s2 : Int)) (
    gd (i64b (i + 1)) (
    next0 (List.drop (Int.toNat (inde + 1)) s2) (i + 1) (List.set ys (Int.toNat i) (List.take (Int.toNat (inde + sepSave)) s2)))))))))
  else
   (ix ys i).bind fun e5 =>
   (ix ys i).bind fun e6 =>
   gd (i64b (i + 1)) (
   gd (leB 0 (i + 1)) (
   gd (leB (i + 1) (List.length (List.set ys (Int.toNat i) s2) : Int)) (
   some (List.take (Int.toNat (i + 1)) (List.set ys (Int.toNat i) s2)))))
def s_strings_genSplit_v997 (N : Nat) (s : List UInt8) (sepSave : Int) (n : Int) : Option (List (List UInt8)) :=
  bif (n == 0) then
   some []
  else
   bif (ltB n 0) then
    (s_strings_Count_v724 N s).bind fun coun =>
    gd (i64b (coun + 1)) (
    gd (i64b ((List.length s : Int) + 1)) (
    gd (leB 0 (min (coun + 1) ((List.length s : Int) + 1))) (
    gd (leB (16 * (min (coun + 1) ((List.length s : Int) + 1))) 281474976710656) (
    gd (i64b ((min (coun + 1) ((List.length s : Int) + 1)) - 1)) (
    lp3 (s_strings_genSplit_v997_1 N sepSave ((min (coun + 1) ((List.length s : Int) + 1)) - 1)) N s 0 (List.replicate (Int.toNat (min (coun + 1) ((List.length s : Int) + 1))) []))))))
   else
    gd (i64b ((List.length s : Int) + 1)) (
    gd (leB 0 (min n ((List.length s : Int) + 1))) (
    gd (leB (16 * (min n ((List.length s : Int) + 1))) 281474976710656) (
    gd (i64b ((min n ((List.length s : Int) + 1)) - 1)) (
    lp3 (s_strings_genSplit_v997_1 N sepSave ((min n ((List.length s : Int) + 1)) - 1)) N s 0 (List.replicate (Int.toNat (min n ((List.length s : Int) + 1))) [])))))
def s_strings_Split_v724 (N : Nat) (s : List UInt8) : Option (List (List UInt8)) :=
  (s_strings_genSplit_v997 N s 0 (-1)).bind fun gens =>
  some gens
def s_stringslite_Index_v682 (N : Nat) (s : List UInt8) : Option Int :=
  bif (([58] : List UInt8) == s) then
   some 0
  else
   (s_stringslite_IndexByte N s 58).bind fun inde =>
   some inde
def s_stringslite_Cut_v682 (N : Nat) (s : List UInt8) : Option (List UInt8 × List UInt8 × Bool) :=
  (s_stringslite_Index_v682 N s).bind fun inde =>
  bif (leB 0 inde) then
   gd (leB 0 inde) (
   gd (leB inde (List.length s : Int)) (
   gd (i64b (inde + 1)) (
   gd (leB 0 (inde + 1)) (
   gd (leB (inde + 1) (List.length s : Int)) (
   some ((List.take (Int.toNat inde) s), (List.drop (Int.toNat (inde + 1)) s), true))))))
  else
   some (s, [], false)
def s_strings_Cut_v682 (N : Nat) (s : List UInt8) : Option (List UInt8 × List UInt8 × Bool) :=
  (s_stringslite_Cut_v682 N s).bind fun cut =>
  some (cut.1, cut.2.1, cut.2.2)
def s_value_Word (N : Nat) (kind : Int) : Option (List UInt8) :=
  bif (kind == 1) then
   some [105, 110, 116]
  else
   bif (kind == 2) then
    some [102, 108, 97, 103]
   else
    bif (kind == 3) then
     some [114, 101, 97, 108]
    else
     bif (kind == 4) then
      some [116, 101, 120, 116]
     else
      some []
def s_schema_kindOf_1 (N : Nat) (word : List UInt8) (next0 : Int → Option Int) (kind : Int) : Option Int :=
  bif (leB kind 4) then
   (s_value_Word N kind).bind fun word2 =>
   bif (word2 == word) then
    some kind
   else
    next0 (IntKind.u8.wrap (kind + 1))
  else
   some 0
def s_schema_kindOf (N : Nat) (word : List UInt8) : Option Int :=
  lp1 (s_schema_kindOf_1 N word) N 1
def s_schema_letter (N : Nat) (c : Int) : Option Bool :=
  bif (leB 97 c) then
   some (leB c 122)
  else
   some false
def s_schema_Reserved (N : Nat) (s : List UInt8) : Option Bool :=
  bif (s == [119, 105, 116, 104, 105, 110]) then
   bif (s == [119, 105, 116, 104, 105, 110]) then
    some true
   else
    some false
  else
   bif (s == [98, 121]) then
    bif (s == [98, 121]) then
     some true
    else
     some false
   else
    bif (s == [97, 110, 100]) then
     bif (s == [97, 110, 100]) then
      some true
     else
      some false
    else
     bif (s == [111, 114]) then
      bif (s == [111, 114]) then
       some true
      else
       some false
     else
      bif (s == [110, 111, 116]) then
       bif (s == [110, 111, 116]) then
        some true
       else
        some false
      else
       bif (s == [97, 110, 121]) then
        bif (s == [97, 110, 121]) then
         some true
        else
         some false
       else
        bif (s == [110, 101, 120, 116]) then
         bif (s == [110, 101, 120, 116]) then
          some true
         else
          some false
        else
         bif (s == [115, 116, 114, 105, 99, 116]) then
          bif (s == [115, 116, 114, 105, 99, 116]) then
           some true
          else
           some false
         else
          bif (s == [116, 114, 117, 101]) then
           bif (s == [116, 114, 117, 101]) then
            some true
           else
            some false
          else
           bif (s == [102, 97, 108, 115, 101]) then
            some true
           else
            some false
def s_schema_tail (N : Nat) (c : Int) : Option Bool :=
  (s_schema_letter N c).bind fun lett =>
  bif lett then
   some true
  else
   bif (leB 48 c) then
    bif (leB c 57) then
     some true
    else
     some (c == 95)
   else
    some (c == 95)
def s_schema_Name_1 (N : Nat) (s : List UInt8) (next0 : Int → Option Bool) (i : Int) : Option Bool :=
  bif (ltB i (List.length s : Int)) then
   (ix s i).bind fun c2 =>
   (s_schema_tail N (UInt8.toNat c2 : Int)).bind fun tail =>
   bif (!tail) then
    some false
   else
    gd (i64b (i + 1)) (
    next0 (i + 1))
  else
   some true
def s_schema_Name (N : Nat) (s : List UInt8) : Option Bool :=
  bif (s == []) then
   some false
  else
   bif (ltB 12 (List.length s : Int)) then
    some false
   else
    (ix s 0).bind fun c =>
    (s_schema_letter N (UInt8.toNat c : Int)).bind fun lett =>
    bif (!lett) then
     some false
    else
     (s_schema_Reserved N s).bind fun rese =>
     bif rese then
      some false
     else
      lp1 (s_schema_Name_1 N s) N 1
def s_schema_Type_Field_1 (N : Nat) (name : List UInt8) (x : List schema_Field) (x2 : Int) (next0 : Int → Option (Int × Int)) (x3 : Int) : Option (Int × Int) :=
  bif (ltB x3 x2) then
   (ix x x3).bind fun e =>
   bif (e.Name == name) then
    some (x3, e.Kind)
   else
    gd (i64b (x3 + 1)) (
    next0 (x3 + 1))
  else
   some ((-1), 0)
def s_schema_Type_Field (N : Nat) (t : schema_Type) (name : List UInt8) : Option (Int × Int) :=
  lp1 (s_schema_Type_Field_1 N name t.Fields (List.length t.Fields : Int)) N 0
def s_schema_Type_check_1 (N : Nat) (x : List schema_Field) (x2 : Int) (y : List UInt8) (y2 : List schema_Field) (next0 : Int → Option Int) (x3 : Int) : Option Int :=
  bif (ltB x3 x2) then
   (ix x x3).bind fun e =>
   (s_schema_Type_Field N (schema_Type.mk y y2) e.Name).bind fun fiel =>
   (s_schema_Name N e.Name).bind fun name2 =>
   bif (!name2) then
    some 4
   else
    (s_value_Word N e.Kind).bind fun word =>
    bif (word == []) then
     some 11
    else
     bif (fiel.1 != x3) then
      some 21
     else
      gd (i64b (x3 + 1)) (
      next0 (x3 + 1))
  else
   some 0
def s_schema_Type_check (N : Nat) (t : schema_Type) : Option Int :=
  (s_schema_Name N t.Name).bind fun name =>
  bif (!name) then
   some 4
  else
   bif (ltB 6 (List.length t.Fields : Int)) then
    some 5
   else
    lp1 (s_schema_Type_check_1 N t.Fields (List.length t.Fields : Int) t.Name t.Fields) N 0
abbrev s_slices_Clone_schema_Field (N : Nat) (s : List schema_Field) : Option (List schema_Field) := shClone 24 s
def s_schema_Find_1 (N : Nat) (name : List UInt8) (l : List schema_Type) (x : Int) (next0 : Int → Option (schema_Type × Bool)) (x2 : Int) : Option (schema_Type × Bool) :=
  bif (ltB x2 x) then
   (ix l x2).bind fun e =>
   bif (e.Name == name) then
    (s_slices_Clone_schema_Field N e.Fields).bind fun clon =>
    some ((schema_Type.mk name clon), true)
   else
    gd (i64b (x2 + 1)) (
    next0 (x2 + 1))
  else
   some ((schema_Type.mk [] []), false)
def s_schema_Find (N : Nat) (l : List schema_Type) (name : List UInt8) : Option (schema_Type × Bool) :=
  lp1 (s_schema_Find_1 N name l (List.length l : Int)) N 0
def s_schema_Check_1 (N : Nat) (l : List schema_Type) (x : List schema_Type) (x2 : Int) (next0 : Int → Option Int) (x3 : Int) : Option Int :=
  bif (ltB x3 x2) then
   (ix x x3).bind fun e =>
   (s_schema_Type_check N e).bind fun chec =>
   bif (chec != 0) then
    some chec
   else
    gd (leB 0 x3) (
    gd (leB x3 (List.length l : Int)) (
    (s_schema_Find N (List.take (Int.toNat x3) l) e.Name).bind fun find =>
    bif find.2 then
     some 21
    else
     gd (i64b (x3 + 1)) (
     next0 (x3 + 1))))
  else
   some 0
def s_schema_Check (N : Nat) (l : List schema_Type) : Option Int :=
  bif (ltB 8 (List.length l : Int)) then
   some 5
  else
   lp1 (s_schema_Check_1 N l l (List.length l : Int)) N 0
def s_schema_Parse_2 (N : Nat) (rest : List UInt8) (ended : Bool) (x : List (List UInt8)) (x2 : Int) (e : List UInt8) (next0 : (List UInt8) → (List schema_Type) → Option (List schema_Type × Int)) (next2 : Int → (List schema_Type) → (List schema_Field) → Option (List schema_Type × Int)) (x3 : Int) (ys2 : List schema_Type) (ys3 : List schema_Field) : Option (List schema_Type × Int) :=
  bif (ltB x3 x2) then
   (ix x x3).bind fun e2 =>
   (s_strings_Cut_v682 N e2).bind fun cut2 =>
   (s_schema_kindOf N cut2.2.1).bind fun kind =>
   bif (!cut2.2.2) then
    some ([], 4)
   else
    bif (kind == 0) then
     some ([], 4)
    else
     gd (Nat.ble ((List.length ys3 + 1) * 24) 140737488355328) (
     gd (i64b (x3 + 1)) (
     next2 (x3 + 1) ys2 (ys3 ++ [(schema_Field.mk cut2.1 kind)])))
  else
   bif (!ended) then
    some ([], 4)
   else
    gd (Nat.ble ((List.length ys2 + 1) * 40) 140737488355328) (
    next0 rest (ys2 ++ [(schema_Type.mk e ys3)]))
def s_schema_Parse_1 (N : Nat) (next0 : (List UInt8) → (List schema_Type) → Option (List schema_Type × Int)) (s2 : List UInt8) (ys : List schema_Type) : Option (List schema_Type × Int) :=
  bif (!(s2 == [])) then
   (s_strings_Cut_v860 N s2).bind fun cut =>
   (s_strings_Split_v724 N cut.1).bind fun spli =>
   (ix spli 0).bind fun e =>
   gd (leB 1 (List.length spli : Int)) (
   lp3 (s_schema_Parse_2 N cut.2.1 cut.2.2 (List.drop 1 spli) (List.length (List.drop 1 spli) : Int) e next0) N 0 ys [])
  else
   (s_schema_Check N ys).bind fun chec =>
   bif (chec != 0) then
    some ([], chec)
   else
    some (ys, 0)
def s_schema_Parse (N : Nat) (s : List UInt8) : Option (List schema_Type × Int) :=
  lp2 (s_schema_Parse_1 N) N s []
abbrev s_slices_Clone_schema_Type_D (N : Nat) (s : List schema_Type) : Option (List schema_Type) := shClone 40 s
def s_gate_New_1 (N : Nat) (x : Int) (clon : List schema_Type) (next0 : Int → (List gate_Source) → Option (gate_Gate × Int)) (x2 : Int) (ys : List gate_Source) : Option (gate_Gate × Int) :=
  bif (ltB x2 x) then
   (ix ys x2).bind fun e =>
   (ix ys x2).bind fun e2 =>
   gd (i64b (x2 + 1)) (
   next0 (x2 + 1) (List.set ys (Int.toNat x2) (gate_Source.mk e2.Front (-1) e2.Closed)))
  else
   some ((gate_Gate.mk clon ys), 0)
def s_gate_New (N : Nat) (types : List schema_Type) (sources : Int) : Option (gate_Gate × Int) :=
  (s_schema_Check N types).bind fun chec =>
  bif (chec != 0) then
   some ((gate_Gate.mk [] []), 2)
  else
   bif (ltB sources 1) then
    some ((gate_Gate.mk [] []), 2)
   else
    bif (ltB 16 sources) then
     some ((gate_Gate.mk [] []), 2)
    else
     (s_slices_Clone_schema_Type_D N types).bind fun clon =>
     gd (leB 0 sources) (
     gd (leB (24 * sources) 281474976710656) (
     lp2 (s_gate_New_1 N (List.length (List.replicate (Int.toNat sources) (gate_Source.mk 0 0 false)) : Int) clon) N 0 (List.replicate (Int.toNat sources) (gate_Source.mk 0 0 false))))
def s_gate_Gate_open (N : Nat) (g : gate_Gate) (s : Int) : Option (gate_Source × Int) :=
  bif (ltB s 0) then
   some ((gate_Source.mk 0 0 false), 17)
  else
   bif (leB (List.length g.L : Int) s) then
    some ((gate_Source.mk 0 0 false), 17)
   else
    (ix g.L s).bind fun e =>
    bif e.Closed then
     some ((gate_Source.mk 0 0 false), 20)
    else
     (ix g.L s).bind fun e2 =>
     some (e2, 0)
abbrev s_slices_Clone_gate_Source (N : Nat) (s : List gate_Source) : Option (List gate_Source) := shClone 24 s
def s_gate_Gate_Advance_L1_v469 (N : Nat) (i : Int) (y : Int) (xs : List gate_Source) : Option (Int × List gate_Source) :=
  (ix xs i).bind fun e =>
  some (y, (List.set xs (Int.toNat i) (gate_Source.mk y e.Last e.Closed)))
def s_gate_Gate_turn_v637 (N : Nat) (g : gate_Gate) (s : Int) (y : Int) : Option (gate_Gate × Int) :=
  (s_slices_Clone_gate_Source N g.L).bind fun clon =>
  (ix clon s).bind fun e =>
  (s_gate_Gate_Advance_L1_v469 N s y clon).bind fun l =>
  some ((gate_Gate.mk g.Types l.2), l.1)
def s_gate_Gate_Advance (N : Nat) (g : gate_Gate) (s : Int) (time : Int) : Option (gate_Gate × Int) :=
  (s_gate_Gate_open N g s).bind fun vopen =>
  bif (vopen.2 != 0) then
   some (g, vopen.2)
  else
   bif (ltB time vopen.1.Front) then
    some (g, 8)
   else
    bif (ltB 1099511627776 time) then
     some (g, 8)
    else
     (s_gate_Gate_turn_v637 N g s time).bind fun turn =>
     some (turn.1, 0)
def s_event_Event_ID (N : Nat) (e : event_Event) : Option event_ID :=
  some (event_ID.mk e.Time e.Source e.Seq)
def s_event_ID_may (N : Nat) (va : event_ID) : Option Bool :=
  bif (leB 0 va.Time) then
   bif (leB va.Time 1099511627776) then
    bif (leB 0 va.Source) then
     bif (ltB va.Source 16) then
      bif (leB 0 va.Seq) then
       some (leB va.Seq 1099511627776)
      else
       some false
     else
      some false
    else
     some false
   else
    some false
  else
   some false
def s_value_core (N : Nat) (v : value_Value) : Option (Int ⊕ Int ⊕ Int ⊕ (List UInt8) ⊕ Unit) :=
  bif (v.Kind == 1) then
   some (Sum.inl v.N)
  else
   bif (v.Kind == 2) then
    some (Sum.inr (Sum.inl v.N))
   else
    bif (v.Kind == 3) then
     some (Sum.inr (Sum.inr (Sum.inl v.Bits)))
    else
     bif (v.Kind == 4) then
      some (Sum.inr (Sum.inr (Sum.inr (Sum.inl v.Text))))
     else
      some (Sum.inr (Sum.inr (Sum.inr (Sum.inr ()))))
def s_value_number_whole (N : Nat) (n : Int) : Option value_Value :=
  some (value_Value.mk 1 n 0 [])
def s_value_flag_whole (N : Nat) (n : Int) : Option value_Value :=
  some (value_Value.mk 2 n 0 [])
def s_real_of (N : Nat) (u : Int) : Option Nat :=
  some (Int.toNat u)
def s_real_Clean (N : Nat) (u : Int) : Option Int :=
  (s_real_of N u).bind fun of =>
  bif (fcmpB .neq .f64 of of) then
   some 9221120237041090560
  else
   some u
def s_value_double_whole (N : Nat) (u : Int) : Option value_Value :=
  some (value_Value.mk 3 0 u [])
def s_value_words_whole (N : Nat) (s : List UInt8) : Option value_Value :=
  some (value_Value.mk 4 0 0 s)
def s_value_Check (N : Nat) (v : value_Value) : Option Int :=
  (s_value_core N v).bind fun x => Sum.elim
  (fun core =>
   bif (ltB core (-4611686018427387904)) then
    some 8
   else
    bif (ltB 4611686018427387904 core) then
     some 8
    else
     (s_value_number_whole N core).bind fun whol =>
     bif (!((whol.Kind == v.Kind) && ((whol.N == v.N) && ((whol.Bits == v.Bits) && (whol.Text == v.Text))))) then
      some 2
     else
      some 0)
  (Sum.elim
  (fun core2 =>
   bif (core2 != 0) then
    bif (core2 != 1) then
     some 8
    else
     (s_value_flag_whole N core2).bind fun whol2 =>
     bif (!((whol2.Kind == v.Kind) && ((whol2.N == v.N) && ((whol2.Bits == v.Bits) && (whol2.Text == v.Text))))) then
      some 2
     else
      some 0
   else
    (s_value_flag_whole N core2).bind fun whol3 =>
    bif (!((whol3.Kind == v.Kind) && ((whol3.N == v.N) && ((whol3.Bits == v.Bits) && (whol3.Text == v.Text))))) then
     some 2
    else
     some 0)
  (Sum.elim
  (fun core3 =>
   (s_real_Clean N core3).bind fun clea =>
   bif (clea != core3) then
    some 4
   else
    (s_value_double_whole N core3).bind fun whol4 =>
    bif (!((whol4.Kind == v.Kind) && ((whol4.N == v.N) && ((whol4.Bits == v.Bits) && (whol4.Text == v.Text))))) then
     some 2
    else
     some 0)
  (Sum.elim
  (fun core4 =>
   bif (ltB 24 (List.length core4 : Int)) then
    some 5
   else
    (s_value_words_whole N core4).bind fun whol5 =>
    bif (!((whol5.Kind == v.Kind) && ((whol5.N == v.N) && ((whol5.Bits == v.Bits) && (whol5.Text == v.Text))))) then
     some 2
    else
     some 0)
  (fun core5 =>
   some 11)))) x
def s_schema_Fits_1 (N : Nat) (vals : List value_Value) (x : Int) (y2 : List schema_Field) (next0 : Int → Option Int) (x2 : Int) : Option Int :=
  bif (ltB x2 x) then
   (ix vals x2).bind fun e =>
   (s_value_Check N e).bind fun chec =>
   bif (chec != 0) then
    some chec
   else
    (ix y2 x2).bind fun e2 =>
    bif (e.Kind != e2.Kind) then
     some 19
    else
     gd (i64b (x2 + 1)) (
     next0 (x2 + 1))
  else
   some 0
def s_schema_Fits (N : Nat) (t : schema_Type) (vals : List value_Value) : Option Int :=
  bif ((List.length vals : Int) != (List.length t.Fields : Int)) then
   some 5
  else
   lp1 (s_schema_Fits_1 N vals (List.length vals : Int) t.Fields) N 0
def s_event_Check (N : Nat) (types : List schema_Type) (e : event_Event) : Option Int :=
  (s_schema_Check N types).bind fun chec =>
  bif (chec != 0) then
   some 2
  else
   (s_event_Event_ID N e).bind fun id =>
   (s_event_ID_may N id).bind fun may =>
   bif (!may) then
    some 8
   else
    (s_schema_Find N types e.Type_).bind fun find =>
    bif (!find.2) then
     some 6
    else
     (s_schema_Fits N find.1 e.Vals).bind fun fits =>
     some fits
def s_gate_Gate_Why (N : Nat) (g : gate_Gate) (e : event_Event) : Option Int :=
  (s_event_Check N g.Types e).bind fun chec =>
  bif (chec != 0) then
   some chec
  else
   (s_gate_Gate_open N g e.Source).bind fun vopen =>
   bif (vopen.2 != 0) then
    some vopen.2
   else
    bif (ltB e.Time vopen.1.Front) then
     some 13
    else
     bif (leB e.Seq vopen.1.Last) then
      some 12
     else
      some 0
def s_gate_Gate_Accept_L1_v149 (N : Nat) (i : Int) (y : Int) (y2 : Int) (y3 : Int) (y4 : List UInt8) (y5 : List value_Value) (xs : List gate_Source) : Option (Int × Int × Int × List UInt8 × List value_Value × List gate_Source) :=
  (ix xs i).bind fun e =>
  some (y, y2, y3, y4, y5, (List.set xs (Int.toNat i) (gate_Source.mk e.Front y3 e.Closed)))
def s_gate_Gate_turn_v778 (N : Nat) (g : gate_Gate) (s : Int) (y : Int) (y2 : Int) (y3 : Int) (y4 : List UInt8) (y5 : List value_Value) : Option (gate_Gate × Int × Int × Int × List UInt8 × List value_Value) :=
  (s_slices_Clone_gate_Source N g.L).bind fun clon =>
  (ix clon s).bind fun e =>
  (s_gate_Gate_Accept_L1_v149 N s y y2 y3 y4 y5 clon).bind fun l =>
  some ((gate_Gate.mk g.Types l.2.2.2.2.2), l.1, l.2.1, l.2.2.1, l.2.2.2.1, l.2.2.2.2.1)
def s_gate_Gate_Accept (N : Nat) (g : gate_Gate) (e : event_Event) : Option (gate_Gate × Int) :=
  (s_gate_Gate_Why N g e).bind fun why =>
  bif (why != 0) then
   some (g, why)
  else
   (s_gate_Gate_turn_v778 N g e.Source e.Time e.Source e.Seq e.Type_ e.Vals).bind fun turn =>
   some (turn.1, 0)
def s_gate_Gate_Close_L1_v462 (N : Nat) (i : Int) (xs : List gate_Source) : Option (List gate_Source) :=
  (ix xs i).bind fun e =>
  some (List.set xs (Int.toNat i) (gate_Source.mk e.Front e.Last true))
def s_gate_Gate_turn_v071 (N : Nat) (g : gate_Gate) (s : Int) : Option gate_Gate :=
  (s_slices_Clone_gate_Source N g.L).bind fun clon =>
  (ix clon s).bind fun e =>
  (s_gate_Gate_Close_L1_v462 N s clon).bind fun l =>
  some (gate_Gate.mk g.Types l)
def s_gate_Gate_Close (N : Nat) (g : gate_Gate) (s : Int) : Option (gate_Gate × Int) :=
  (s_gate_Gate_open N g s).bind fun vopen =>
  bif (vopen.2 != 0) then
   some (g, vopen.2)
  else
   (s_gate_Gate_turn_v071 N g s).bind fun turn =>
   some (turn, 0)
def s_gate_Gate_Least_1 (N : Nat) (x : List gate_Source) (x2 : Int) (next0 : Int → Int → Option Int) (least : Int) (x3 : Int) : Option Int :=
  bif (ltB x3 x2) then
   (ix x x3).bind fun e =>
   bif (!e.Closed) then
    gd (i64b (x3 + 1)) (
    next0 (min least e.Front) (x3 + 1))
   else
    gd (i64b (x3 + 1)) (
    next0 least (x3 + 1))
  else
   some least
def s_gate_Gate_Least (N : Nat) (g : gate_Gate) : Option Int :=
  lp2 (s_gate_Gate_Least_1 N g.L (List.length g.L : Int)) N 1099511627777 0
def s_slices_Equal_schema_Field_1 (N : Nat) (s1 : List schema_Field) (s2 : List schema_Field) (x : Int) (next0 : Int → Option Bool) (x2 : Int) : Option Bool :=
  bif (ltB x2 x) then
   (ix s1 x2).bind fun e =>
   (ix s2 x2).bind fun e2 =>
   bif (!((e.Name == e2.Name) && (e.Kind == e2.Kind))) then
    some false
   else
    gd (i64b (x2 + 1)) (
    next0 (x2 + 1))
  else
   some true
def s_slices_Equal_schema_Field (N : Nat) (s1 : List schema_Field) (s2 : List schema_Field) : Option Bool :=
  bif ((List.length s1 : Int) != (List.length s2 : Int)) then
   some false
  else
   lp1 (s_slices_Equal_schema_Field_1 N s1 s2 (List.length s1 : Int)) N 0
def s_schema_Same_L1 (N : Nat) (x : schema_Type) (y : schema_Type) : Option Bool :=
  bif (x.Name == y.Name) then
   (s_slices_Equal_schema_Field N x.Fields y.Fields).bind fun fiel =>
   some fiel
  else
   some false
def s_slices_EqualFunc_schema_Type_v029_1 (N : Nat) (s2 : List schema_Type) (s1 : List schema_Type) (x : Int) (next0 : Int → Option Bool) (x2 : Int) : Option Bool :=
  bif (ltB x2 x) then
   (ix s1 x2).bind fun e =>
   (ix s2 x2).bind fun e2 =>
   (s_schema_Same_L1 N e e2).bind fun l =>
   bif (!l) then
    some false
   else
    gd (i64b (x2 + 1)) (
    next0 (x2 + 1))
  else
   some true
def s_slices_EqualFunc_schema_Type_v029 (N : Nat) (s1 : List schema_Type) (s2 : List schema_Type) : Option Bool :=
  bif ((List.length s1 : Int) != (List.length s2 : Int)) then
   some false
  else
   lp1 (s_slices_EqualFunc_schema_Type_v029_1 N s2 s1 (List.length s1 : Int)) N 0
def s_schema_Same (N : Nat) (va : List schema_Type) (b : List schema_Type) : Option Bool :=
  (s_slices_EqualFunc_schema_Type_v029 N va b).bind fun type =>
  some type
def s_gate_Same_1 (N : Nat) (x : List gate_Source) (x2 : Int) (y2 : List gate_Source) (next0 : Int → Option Bool) (x3 : Int) : Option Bool :=
  bif (ltB x3 x2) then
   (ix x x3).bind fun e =>
   (ix y2 x3).bind fun e2 =>
   bif (!((e.Front == e2.Front) && ((e.Last == e2.Last) && (e.Closed == e2.Closed)))) then
    some false
   else
    gd (i64b (x3 + 1)) (
    next0 (x3 + 1))
  else
   some true
def s_gate_Same (N : Nat) (va : gate_Gate) (b : gate_Gate) : Option Bool :=
  bif ((List.length va.L : Int) != (List.length b.L : Int)) then
   some false
  else
   (s_schema_Same N va.Types b.Types).bind fun same =>
   bif (!same) then
    some false
   else
    lp1 (s_gate_Same_1 N va.L (List.length va.L : Int) b.L) N 0
def s_law32_awake (N : Nat) : Option Bool :=
  (s_schema_Parse N [116, 10]).bind fun pars =>
  (s_gate_New N pars.1 2).bind fun new =>
  (s_gate_New N pars.1 17).bind fun new2 =>
  (s_gate_Gate_Advance N new.1 0 5).bind fun adva =>
  (s_gate_Gate_Advance N adva.1 0 4).bind fun adva2 =>
  (s_gate_Gate_Accept N adva.1 (event_Event.mk 4 0 0 [116] [])).bind fun acce =>
  (s_gate_Gate_Accept N adva.1 (event_Event.mk 5 0 3 [116] [])).bind fun acce2 =>
  (s_gate_Gate_Accept N acce2.1 (event_Event.mk 5 0 3 [116] [])).bind fun acce3 =>
  (s_gate_Gate_Close N acce2.1 1).bind fun clos =>
  (s_gate_Gate_Close N clos.1 1).bind fun clos2 =>
  (s_gate_Gate_Close N clos.1 0).bind fun clos3 =>
  bif (new.2 == 0) then
   bif (new2.2 == 2) then
    bif (adva.2 == 0) then
     bif (adva2.2 == 8) then
      bif (acce.2 == 13) then
       bif (acce2.2 == 0) then
        bif (acce3.2 == 12) then
         bif (clos.2 == 0) then
          bif (clos2.2 == 20) then
           (s_gate_Gate_Why N acce2.1 (event_Event.mk 0 2 0 [116] [])).bind fun why =>
           bif (why == 17) then
            (s_gate_Gate_Why N acce2.1 (event_Event.mk 0 0 0 [117] [])).bind fun why2 =>
            bif (why2 == 6) then
             (s_gate_Gate_Least N acce2.1).bind fun leas =>
             bif (leas == 0) then
              (s_gate_Gate_Least N clos.1).bind fun leas2 =>
              bif (leas2 == 5) then
               (s_gate_Gate_Least N clos3.1).bind fun leas3 =>
               bif (leas3 == 1099511627777) then
                (s_gate_Same N acce2.1 acce2.1).bind fun same =>
                bif same then
                 (s_gate_Same N acce2.1 clos.1).bind fun same2 =>
                 bif (!same2) then
                  some true
                 else
                  some false
                else
                 some false
               else
                some false
              else
               some false
             else
              some false
            else
             some false
           else
            some false
          else
           some false
         else
          some false
        else
         some false
       else
        some false
      else
       some false
     else
      some false
    else
     some false
   else
    some false
  else
   some false
def s_law06_Own_2 (N : Nat) (l : List schema_Type) (i : Int) (y : List UInt8) (next0 : Int → (List schema_Type) → Option (List schema_Type)) (next2 : Int → (List schema_Type) → (List schema_Field) → Option (List schema_Type)) (k : Int) (ys2 : List schema_Type) (ys3 : List schema_Field) : Option (List schema_Type) :=
  (ix l i).bind fun e2 =>
  bif (ltB k (List.length e2.Fields : Int)) then
   (ix l i).bind fun e3 =>
   (ix e3.Fields k).bind fun e4 =>
   gd (Nat.ble ((List.length ys3 + 1) * 24) 140737488355328) (
   gd (i64b (k + 1)) (
   next2 (k + 1) ys2 (ys3 ++ [e4])))
  else
   gd (Nat.ble ((List.length ys2 + 1) * 40) 140737488355328) (
   gd (i64b (i + 1)) (
   next0 (i + 1) (ys2 ++ [(schema_Type.mk y ys3)])))
def s_law06_Own_1 (N : Nat) (l : List schema_Type) (next0 : Int → (List schema_Type) → Option (List schema_Type)) (i : Int) (ys : List schema_Type) : Option (List schema_Type) :=
  bif (ltB i (List.length l : Int)) then
   (ix l i).bind fun e =>
   lp3 (s_law06_Own_2 N l i e.Name next0) N 0 ys []
  else
   some ys
def s_law06_Own (N : Nat) (l : List schema_Type) : Option (List schema_Type) :=
  lp2 (s_law06_Own_1 N l) N 0 []
def s_law04_Small (N : Nat) (v : value_Value) : Option Int :=
  gd (i64b ((List.length v.Text : Int) - 100)) (
  some (max 0 ((List.length v.Text : Int) - 100)))
def s_law07_Over_2 (N : Nat) (l : List event_Event) (i : Int) (next0 : Int → Option Int) (next2 : Int → Option Int) (k : Int) : Option Int :=
  (ix l i).bind fun e3 =>
  bif (ltB k (List.length e3.Vals : Int)) then
   (ix l i).bind fun e4 =>
   (ix e4.Vals k).bind fun e5 =>
   (s_law04_Small N e5).bind fun smal =>
   bif (ltB 0 smal) then
    some 1
   else
    gd (i64b (k + 1)) (
    next2 (k + 1))
  else
   gd (i64b (i + 1)) (
   next0 (i + 1))
def s_law07_Over_1 (N : Nat) (l : List event_Event) (next0 : Int → Option Int) (i : Int) : Option Int :=
  bif (ltB i (List.length l : Int)) then
   (ix l i).bind fun e =>
   bif (ltB 40 (List.length e.Type_ : Int)) then
    some 1
   else
    (ix l i).bind fun e2 =>
    bif (ltB 12 (List.length e2.Vals : Int)) then
     some 1
    else
     lp1 (s_law07_Over_2 N l i next0) N 0
  else
   some 0
def s_law07_Over (N : Nat) (l : List event_Event) (most : Int) : Option Int :=
  bif (ltB most (List.length l : Int)) then
   some 1
  else
   lp1 (s_law07_Over_1 N l) N 0
def s_law06_Vals_1 (N : Nat) (l : List value_Value) (next0 : Int → (List value_Value) → Option (List value_Value)) (i : Int) (ys : List value_Value) : Option (List value_Value) :=
  bif (ltB i (List.length l : Int)) then
   (ix l i).bind fun e =>
   gd (Nat.ble ((List.length ys + 1) * 40) 140737488355328) (
   gd (i64b (i + 1)) (
   next0 (i + 1) (ys ++ [e])))
  else
   some ys
def s_law06_Vals (N : Nat) (l : List value_Value) : Option (List value_Value) :=
  lp2 (s_law06_Vals_1 N l) N 0 []
def s_law07_Own (N : Nat) (e : event_Event) : Option event_Event :=
  (s_law06_Vals N e.Vals).bind fun vals =>
  some (event_Event.mk e.Time e.Source e.Seq e.Type_ vals)
def s_law32_GateOnce_2 (N : Nat) (i : Int) (y3 : Int) (y4 : Int) (y5 : Int) (y6 : List UInt8) (y7 : List value_Value) (y8 : List schema_Type) (y9 : List gate_Source) (ys : List event_ID) (next0 : Int → (List schema_Type) → (List gate_Source) → (List event_ID) → Option Bool) (next2 : Int → Option Bool) (k : Int) : Option Bool :=
  bif (ltB k (List.length ys : Int)) then
   (ix ys k).bind fun e5 =>
   (ix ys k).bind fun e6 =>
   (s_event_Event_ID N (event_Event.mk y3 y4 y5 y6 y7)).bind fun id =>
   bif ((e6.Time == id.Time) && ((e6.Source == id.Source) && (e6.Seq == id.Seq))) then
    some false
   else
    (ix ys k).bind fun e7 =>
    (ix ys k).bind fun e8 =>
    bif (e8.Source == y4) then
     (ix ys k).bind fun e9 =>
     (ix ys k).bind fun e10 =>
     bif (leB y5 e10.Seq) then
      some false
     else
      gd (i64b (k + 1)) (
      next2 (k + 1))
    else
     gd (i64b (k + 1)) (
     next2 (k + 1))
  else
   (s_event_Event_ID N (event_Event.mk y3 y4 y5 y6 y7)).bind fun id2 =>
   gd (Nat.ble ((List.length ys + 1) * 24) 140737488355328) (
   gd (i64b (i + 1)) (
   next0 (i + 1) y8 y9 (ys ++ [id2])))
def s_law32_GateOnce_1 (N : Nat) (l : List law32_Op) (next0 : Int → (List schema_Type) → (List gate_Source) → (List event_ID) → Option Bool) (i : Int) (y : List schema_Type) (y2 : List gate_Source) (ys : List event_ID) : Option Bool :=
  bif (ltB i (List.length l : Int)) then
   (ix l i).bind fun e =>
   (s_law07_Over N [e.E] 1).bind fun over2 =>
   bif (ltB 0 over2) then
    (s_law32_awake N).bind fun awak4 =>
    some awak4
   else
    (ix l i).bind fun e2 =>
    (s_law07_Own N e2.E).bind fun own2 =>
    (ix l i).bind fun e3 =>
    bif (e3.Kind == 0) then
     (s_gate_Gate_Accept N (gate_Gate.mk y y2) own2).bind fun acce =>
     bif (acce.2 != 0) then
      (s_gate_Same N (gate_Gate.mk y y2) acce.1).bind fun same =>
      bif (!same) then
       some false
      else
       (s_gate_Gate_Least N acce.1).bind fun leas =>
       (s_gate_Gate_Least N (gate_Gate.mk y y2)).bind fun leas2 =>
       bif (ltB leas leas2) then
        some false
       else
        bif (acce.2 == 0) then
         (ix l i).bind fun e4 =>
         bif (e4.Kind == 0) then
          (s_gate_Gate_Least N (gate_Gate.mk y y2)).bind fun leas3 =>
          bif (ltB own2.Time leas3) then
           some false
          else
           (s_gate_Gate_Least N (gate_Gate.mk y y2)).bind fun leas4 =>
           bif (leas4 == 1099511627777) then
            some false
           else
            lp1 (s_law32_GateOnce_2 N i own2.Time own2.Source own2.Seq own2.Type_ own2.Vals acce.1.Types acce.1.L ys next0) N 0
         else
          gd (i64b (i + 1)) (
          next0 (i + 1) acce.1.Types acce.1.L ys)
        else
         gd (i64b (i + 1)) (
         next0 (i + 1) acce.1.Types acce.1.L ys)
     else
      (s_gate_Gate_Least N acce.1).bind fun leas5 =>
      (s_gate_Gate_Least N (gate_Gate.mk y y2)).bind fun leas6 =>
      bif (ltB leas5 leas6) then
       some false
      else
       bif (acce.2 == 0) then
        (ix l i).bind fun e11 =>
        bif (e11.Kind == 0) then
         (s_gate_Gate_Least N (gate_Gate.mk y y2)).bind fun leas7 =>
         bif (ltB own2.Time leas7) then
          some false
         else
          (s_gate_Gate_Least N (gate_Gate.mk y y2)).bind fun leas8 =>
          bif (leas8 == 1099511627777) then
           some false
          else
           lp1 (s_law32_GateOnce_2 N i own2.Time own2.Source own2.Seq own2.Type_ own2.Vals acce.1.Types acce.1.L ys next0) N 0
        else
         gd (i64b (i + 1)) (
         next0 (i + 1) acce.1.Types acce.1.L ys)
       else
        gd (i64b (i + 1)) (
        next0 (i + 1) acce.1.Types acce.1.L ys)
    else
     (ix l i).bind fun e12 =>
     bif (e12.Kind == 1) then
      (ix l i).bind fun e13 =>
      (ix l i).bind fun e14 =>
      (s_gate_Gate_Advance N (gate_Gate.mk y y2) e13.S e14.A).bind fun adva =>
      bif (adva.2 != 0) then
       (s_gate_Same N (gate_Gate.mk y y2) adva.1).bind fun same2 =>
       bif (!same2) then
        some false
       else
        (s_gate_Gate_Least N adva.1).bind fun leas9 =>
        (s_gate_Gate_Least N (gate_Gate.mk y y2)).bind fun leas10 =>
        bif (ltB leas9 leas10) then
         some false
        else
         bif (adva.2 == 0) then
          (ix l i).bind fun e15 =>
          bif (e15.Kind == 0) then
           (s_gate_Gate_Least N (gate_Gate.mk y y2)).bind fun leas11 =>
           bif (ltB own2.Time leas11) then
            some false
           else
            (s_gate_Gate_Least N (gate_Gate.mk y y2)).bind fun leas12 =>
            bif (leas12 == 1099511627777) then
             some false
            else
             lp1 (s_law32_GateOnce_2 N i own2.Time own2.Source own2.Seq own2.Type_ own2.Vals adva.1.Types adva.1.L ys next0) N 0
          else
           gd (i64b (i + 1)) (
           next0 (i + 1) adva.1.Types adva.1.L ys)
         else
          gd (i64b (i + 1)) (
          next0 (i + 1) adva.1.Types adva.1.L ys)
      else
       (s_gate_Gate_Least N adva.1).bind fun leas13 =>
       (s_gate_Gate_Least N (gate_Gate.mk y y2)).bind fun leas14 =>
       bif (ltB leas13 leas14) then
        some false
       else
        bif (adva.2 == 0) then
         (ix l i).bind fun e16 =>
         bif (e16.Kind == 0) then
          (s_gate_Gate_Least N (gate_Gate.mk y y2)).bind fun leas15 =>
          bif (ltB own2.Time leas15) then
           some false
          else
           (s_gate_Gate_Least N (gate_Gate.mk y y2)).bind fun leas16 =>
           bif (leas16 == 1099511627777) then
            some false
           else
            lp1 (s_law32_GateOnce_2 N i own2.Time own2.Source own2.Seq own2.Type_ own2.Vals adva.1.Types adva.1.L ys next0) N 0
         else
          gd (i64b (i + 1)) (
          next0 (i + 1) adva.1.Types adva.1.L ys)
        else
         gd (i64b (i + 1)) (
         next0 (i + 1) adva.1.Types adva.1.L ys)
     else
      (ix l i).bind fun e17 =>
      (s_gate_Gate_Close N (gate_Gate.mk y y2) e17.S).bind fun clos =>
      bif (clos.2 != 0) then
       (s_gate_Same N (gate_Gate.mk y y2) clos.1).bind fun same3 =>
       bif (!same3) then
        some false
       else
        (s_gate_Gate_Least N clos.1).bind fun leas17 =>
        (s_gate_Gate_Least N (gate_Gate.mk y y2)).bind fun leas18 =>
        bif (ltB leas17 leas18) then
         some false
        else
         bif (clos.2 == 0) then
          (ix l i).bind fun e18 =>
          bif (e18.Kind == 0) then
           (s_gate_Gate_Least N (gate_Gate.mk y y2)).bind fun leas19 =>
           bif (ltB own2.Time leas19) then
            some false
           else
            (s_gate_Gate_Least N (gate_Gate.mk y y2)).bind fun leas20 =>
            bif (leas20 == 1099511627777) then
             some false
            else
             lp1 (s_law32_GateOnce_2 N i own2.Time own2.Source own2.Seq own2.Type_ own2.Vals clos.1.Types clos.1.L ys next0) N 0
          else
           gd (i64b (i + 1)) (
           next0 (i + 1) clos.1.Types clos.1.L ys)
         else
          gd (i64b (i + 1)) (
          next0 (i + 1) clos.1.Types clos.1.L ys)
      else
       (s_gate_Gate_Least N clos.1).bind fun leas21 =>
       (s_gate_Gate_Least N (gate_Gate.mk y y2)).bind fun leas22 =>
       bif (ltB leas21 leas22) then
        some false
       else
        bif (clos.2 == 0) then
         (ix l i).bind fun e19 =>
         bif (e19.Kind == 0) then
          (s_gate_Gate_Least N (gate_Gate.mk y y2)).bind fun leas23 =>
          bif (ltB own2.Time leas23) then
           some false
          else
           (s_gate_Gate_Least N (gate_Gate.mk y y2)).bind fun leas24 =>
           bif (leas24 == 1099511627777) then
            some false
           else
            lp1 (s_law32_GateOnce_2 N i own2.Time own2.Source own2.Seq own2.Type_ own2.Vals clos.1.Types clos.1.L ys next0) N 0
         else
          gd (i64b (i + 1)) (
          next0 (i + 1) clos.1.Types clos.1.L ys)
        else
         gd (i64b (i + 1)) (
         next0 (i + 1) clos.1.Types clos.1.L ys)
  else
   (s_law32_awake N).bind fun awak5 =>
   some awak5
def s_law32_GateOnce (N : Nat) (types : List schema_Type) (sources : Int) (l : List law32_Op) : Option Bool :=
  (s_law06_Over N types).bind fun over =>
  bif (ltB 0 over) then
   (s_law32_awake N).bind fun awak =>
   some awak
  else
   bif (ltB 20 (List.length l : Int)) then
    (s_law32_awake N).bind fun awak2 =>
    some awak2
   else
    (s_law06_Own N types).bind fun own =>
    (s_gate_New N own sources).bind fun new =>
    bif (new.2 != 0) then
     bif ((List.length new.1.L : Int) == 0) then
      (s_law32_awake N).bind fun awak3 =>
      some awak3
     else
      some false
    else
     lp4 (s_law32_GateOnce_1 N l) N 0 new.1.Types new.1.L []
end
end Go.Proofs.YtfblfapkpieckaaDoor.W
namespace Go.Proofs.YtfblfapkpieckaaDoor.W
open Go
open Go.Proofs.Tryd
set_option maxRecDepth 1000000
set_option linter.unusedSimpArgs false
set_option linter.unusedVariables false
noncomputable section
theorem hm : prog.follows .mixedOrders = true := by kernel_rfl
def eA0 (x : schema_Field) : AV := .agg [.v (.string (bs x.Name)), .v (.int .u8 x.Kind)]
def eA1 (x : schema_Type) : AV := .agg [.v (.string (bs x.Name)), .sl 2 (List.map eA0 x.Fields)]
def eA2 (x : List UInt8) : AV := .v (.string (bs x))
def eA3 (x : gate_Source) : AV := .agg [.v (.int .i64 x.Front), .v (.int .i64 x.Last), .v (.bool x.Closed)]
def eA4 (x : gate_Gate) : AV := .agg [.sl 2 (List.map eA1 x.Types), .sl 3 (List.map eA3 x.L)]
def eA5 (x : value_Value) : AV := .agg [.v (.int .u8 x.Kind), .v (.int .i64 x.N), .v (.int .u64 x.Bits), .v (.string (bs x.Text))]
def eA6 (x : event_Event) : AV := .agg [.v (.int .i64 x.Time), .v (.int .i64 x.Source), .v (.int .i64 x.Seq), .v (.string (bs x.Type_)), .sl 4 (List.map eA5 x.Vals)]
def eA7 (x : event_ID) : AV := .agg [.v (.int .i64 x.Time), .v (.int .i64 x.Source), .v (.int .i64 x.Seq)]
def eA8 (x : law32_Op) : AV := .agg [.v (.int .u8 x.Kind), .v (.int .i64 x.S), .v (.int .i64 x.A), .v (.int .i64 x.E.Time), .v (.int .i64 x.E.Source), .v (.int .i64 x.E.Seq), .v (.string (bs x.E.Type_)), .sl 4 (List.map eA5 x.E.Vals)]
abbrev T : Nat → Type
  | 0 => schema_Field
  | 1 => schema_Type
  | 2 => List UInt8
  | 3 => gate_Source
  | 4 => gate_Gate
  | 5 => value_Value
  | 6 => event_Event
  | 7 => event_ID
  | 8 => law32_Op
  | _ => Unit
def enc : (i : Nat) → T i → List (BV T)
  | 0 => fun (x : schema_Field) => [.str x.Name, .int .u8 x.Kind]
  | 1 => fun (x : schema_Type) => [.str x.Name, .sl 0 x.Fields]
  | 2 => fun (x : List UInt8) => [.str x]
  | 3 => fun (x : gate_Source) => [.int .i64 x.Front, .int .i64 x.Last, .bool x.Closed]
  | 4 => fun (x : gate_Gate) => [.sl 1 x.Types, .sl 3 x.L]
  | 5 => fun (x : value_Value) => [.int .u8 x.Kind, .int .i64 x.N, .int .u64 x.Bits, .str x.Text]
  | 6 => fun (x : event_Event) => [.int .i64 x.Time, .int .i64 x.Source, .int .i64 x.Seq, .str x.Type_, .sl 5 x.Vals]
  | 7 => fun (x : event_ID) => [.int .i64 x.Time, .int .i64 x.Source, .int .i64 x.Seq]
  | 8 => fun (x : law32_Op) => [.int .u8 x.Kind, .int .i64 x.S, .int .i64 x.A, .int .i64 x.E.Time, .int .i64 x.E.Source, .int .i64 x.E.Seq, .str x.E.Type_, .sl 5 x.E.Vals]
  | _ => fun _ => []
def dec0 : List (BV T) → Option schema_Field := P1 asStr fun a0 => P1 (asInt .u8) fun a1 => P0 (⟨a0, a1⟩ : schema_Field)
def dec1 : List (BV T) → Option schema_Type := P1 asStr fun a0 => P1 (asRow 0) fun a1 => P0 (⟨a0, a1⟩ : schema_Type)
def dec2 : List (BV T) → Option (List UInt8) := P1 asStr fun a0 => P0 (a0 : List UInt8)
def dec3 : List (BV T) → Option gate_Source := P1 (asInt .i64) fun a0 => P1 (asInt .i64) fun a1 => P1 asBool fun a2 => P0 (⟨a0, a1, a2⟩ : gate_Source)
def dec4 : List (BV T) → Option gate_Gate := P1 (asRow 1) fun a0 => P1 (asRow 3) fun a1 => P0 (⟨a0, a1⟩ : gate_Gate)
def dec5 : List (BV T) → Option value_Value := P1 (asInt .u8) fun a0 => P1 (asInt .i64) fun a1 => P1 (asInt .u64) fun a2 => P1 asStr fun a3 => P0 (⟨a0, a1, a2, a3⟩ : value_Value)
def dec6 : List (BV T) → Option event_Event := P1 (asInt .i64) fun a0 => P1 (asInt .i64) fun a1 => P1 (asInt .i64) fun a2 => P1 asStr fun a3 => P1 (asRow 5) fun a4 => P0 (⟨a0, a1, a2, a3, a4⟩ : event_Event)
def dec7 : List (BV T) → Option event_ID := P1 (asInt .i64) fun a0 => P1 (asInt .i64) fun a1 => P1 (asInt .i64) fun a2 => P0 (⟨a0, a1, a2⟩ : event_ID)
def dec8 : List (BV T) → Option law32_Op := P1 (asInt .u8) fun a0 => P1 (asInt .i64) fun a1 => P1 (asInt .i64) fun a2 => P1 (asInt .i64) fun a3 => P1 (asInt .i64) fun a4 => P1 (asInt .i64) fun a5 => P1 asStr fun a6 => P1 (asRow 5) fun a7 => P0 (⟨a0, a1, a2, ⟨a3, a4, a5, a6, a7⟩⟩ : law32_Op)
def dec : (i : Nat) → List (BV T) → Option (T i)
  | 0 => dec0
  | 1 => dec1
  | 2 => dec2
  | 3 => dec3
  | 4 => dec4
  | 5 => dec5
  | 6 => dec6
  | 7 => dec7
  | 8 => dec8
  | _ => fun _ => none
def eA : (i : Nat) → T i → AV
  | 0 => eA0
  | 1 => eA1
  | 2 => eA2
  | 3 => eA3
  | 4 => eA4
  | 5 => eA5
  | 6 => eA6
  | 7 => eA7
  | 8 => eA8
  | _ => fun _ => .agg []
def tb : Tb T := ⟨fun i => [2, 2, 1, 3, 2, 4, 5, 3, 8].getD i 0, fun i => [true, true, false, true, true, true, true, true, true].getD i true, eA, enc, dec⟩
def sbf (k : Nat) : Option (List UInt8 → (i : Nat) × List (T i)) := none
theorem sb_ok (k : Nat) (f : List UInt8 → (i : Nat) × List (T i)) (s : List UInt8) (h : sbf k = some f) : k = 1 ∧ tb.k (f s).1 = 1 ∧ (f s).2.map (tb.eA (f s).1) = s.map byteV := by cases h
theorem dec0_ok (cs : List (BV T)) (x : schema_Field) (h : dec0 cs = some x) : LWs (BV.avs tb cs) (eA0 x).cells := by
  obtain ⟨c0, r0, a0, rfl, h0, h⟩ := P1_some h
  obtain ⟨c1, r1, a1, rfl, h1, h⟩ := P1_some h
  obtain ⟨rfl, rfl⟩ := P0_some h
  exact .cons (asStr_lw h0) (.cons (asInt_lw h1) (.nil))
theorem dec1_ok (cs : List (BV T)) (x : schema_Type) (h : dec1 cs = some x) : LWs (BV.avs tb cs) (eA1 x).cells := by
  obtain ⟨c0, r0, a0, rfl, h0, h⟩ := P1_some h
  obtain ⟨c1, r1, a1, rfl, h1, h⟩ := P1_some h
  obtain ⟨rfl, rfl⟩ := P0_some h
  exact .cons (asStr_lw h0) (.cons (asRow_ok h1) (.nil))
theorem dec2_ok (cs : List (BV T)) (x : List UInt8) (h : dec2 cs = some x) : LWs (BV.avs tb cs) (eA2 x).cells := by
  obtain ⟨c0, r0, a0, rfl, h0, h⟩ := P1_some h
  obtain ⟨rfl, rfl⟩ := P0_some h
  exact .cons (asStr_lw h0) (.nil)
theorem dec3_ok (cs : List (BV T)) (x : gate_Source) (h : dec3 cs = some x) : LWs (BV.avs tb cs) (eA3 x).cells := by
  obtain ⟨c0, r0, a0, rfl, h0, h⟩ := P1_some h
  obtain ⟨c1, r1, a1, rfl, h1, h⟩ := P1_some h
  obtain ⟨c2, r2, a2, rfl, h2, h⟩ := P1_some h
  obtain ⟨rfl, rfl⟩ := P0_some h
  exact .cons (asInt_lw h0) (.cons (asInt_lw h1) (.cons (asBool_lw h2) (.nil)))
theorem dec4_ok (cs : List (BV T)) (x : gate_Gate) (h : dec4 cs = some x) : LWs (BV.avs tb cs) (eA4 x).cells := by
  obtain ⟨c0, r0, a0, rfl, h0, h⟩ := P1_some h
  obtain ⟨c1, r1, a1, rfl, h1, h⟩ := P1_some h
  obtain ⟨rfl, rfl⟩ := P0_some h
  exact .cons (asRow_ok h0) (.cons (asRow_ok h1) (.nil))
theorem dec5_ok (cs : List (BV T)) (x : value_Value) (h : dec5 cs = some x) : LWs (BV.avs tb cs) (eA5 x).cells := by
  obtain ⟨c0, r0, a0, rfl, h0, h⟩ := P1_some h
  obtain ⟨c1, r1, a1, rfl, h1, h⟩ := P1_some h
  obtain ⟨c2, r2, a2, rfl, h2, h⟩ := P1_some h
  obtain ⟨c3, r3, a3, rfl, h3, h⟩ := P1_some h
  obtain ⟨rfl, rfl⟩ := P0_some h
  exact .cons (asInt_lw h0) (.cons (asInt_lw h1) (.cons (asInt_lw h2) (.cons (asStr_lw h3) (.nil))))
theorem dec6_ok (cs : List (BV T)) (x : event_Event) (h : dec6 cs = some x) : LWs (BV.avs tb cs) (eA6 x).cells := by
  obtain ⟨c0, r0, a0, rfl, h0, h⟩ := P1_some h
  obtain ⟨c1, r1, a1, rfl, h1, h⟩ := P1_some h
  obtain ⟨c2, r2, a2, rfl, h2, h⟩ := P1_some h
  obtain ⟨c3, r3, a3, rfl, h3, h⟩ := P1_some h
  obtain ⟨c4, r4, a4, rfl, h4, h⟩ := P1_some h
  obtain ⟨rfl, rfl⟩ := P0_some h
  exact .cons (asInt_lw h0) (.cons (asInt_lw h1) (.cons (asInt_lw h2) (.cons (asStr_lw h3) (.cons (asRow_ok h4) (.nil)))))
theorem dec7_ok (cs : List (BV T)) (x : event_ID) (h : dec7 cs = some x) : LWs (BV.avs tb cs) (eA7 x).cells := by
  obtain ⟨c0, r0, a0, rfl, h0, h⟩ := P1_some h
  obtain ⟨c1, r1, a1, rfl, h1, h⟩ := P1_some h
  obtain ⟨c2, r2, a2, rfl, h2, h⟩ := P1_some h
  obtain ⟨rfl, rfl⟩ := P0_some h
  exact .cons (asInt_lw h0) (.cons (asInt_lw h1) (.cons (asInt_lw h2) (.nil)))
theorem dec8_ok (cs : List (BV T)) (x : law32_Op) (h : dec8 cs = some x) : LWs (BV.avs tb cs) (eA8 x).cells := by
  obtain ⟨c0, r0, a0, rfl, h0, h⟩ := P1_some h
  obtain ⟨c1, r1, a1, rfl, h1, h⟩ := P1_some h
  obtain ⟨c2, r2, a2, rfl, h2, h⟩ := P1_some h
  obtain ⟨c3, r3, a3, rfl, h3, h⟩ := P1_some h
  obtain ⟨c4, r4, a4, rfl, h4, h⟩ := P1_some h
  obtain ⟨c5, r5, a5, rfl, h5, h⟩ := P1_some h
  obtain ⟨c6, r6, a6, rfl, h6, h⟩ := P1_some h
  obtain ⟨c7, r7, a7, rfl, h7, h⟩ := P1_some h
  obtain ⟨rfl, rfl⟩ := P0_some h
  exact .cons (asInt_lw h0) (.cons (asInt_lw h1) (.cons (asInt_lw h2) (.cons (asInt_lw h3) (.cons (asInt_lw h4) (.cons (asInt_lw h5) (.cons (asStr_lw h6) (.cons (asRow_ok h7) (.nil))))))))
theorem tb_ok : tb.Ok where
  enc := fun i x => match i with | 0 => (by kernel_rfl) | 1 => (by kernel_rfl) | 2 => (by kernel_rfl) | 3 => (by kernel_rfl) | 4 => (by kernel_rfl) | 5 => (by kernel_rfl) | 6 => (by kernel_rfl) | 7 => (by kernel_rfl) | 8 => (by kernel_rfl) | n + 9 => (by kernel_rfl)
  len := fun i x => match i with | 0 => (by kernel_rfl) | 1 => (by kernel_rfl) | 2 => (by kernel_rfl) | 3 => (by kernel_rfl) | 4 => (by kernel_rfl) | 5 => (by kernel_rfl) | 6 => (by kernel_rfl) | 7 => (by kernel_rfl) | 8 => (by kernel_rfl) | n + 9 => (by kernel_rfl)
  one := fun i x => match i with | 0 => (by kernel_rfl) | 1 => (by kernel_rfl) | 2 => (by kernel_rfl) | 3 => (by kernel_rfl) | 4 => (by kernel_rfl) | 5 => (by kernel_rfl) | 6 => (by kernel_rfl) | 7 => (by kernel_rfl) | 8 => (by kernel_rfl) | n + 9 => (by kernel_rfl)
  dat := fun i x => match i with | 0 => (by kernel_rfl) | 1 => (by kernel_rfl) | 2 => (by kernel_rfl) | 3 => (by kernel_rfl) | 4 => (by kernel_rfl) | 5 => (by kernel_rfl) | 6 => (by kernel_rfl) | 7 => (by kernel_rfl) | 8 => (by kernel_rfl) | n + 9 => (by kernel_rfl)
  sg := fun i x h => match i with | 0 => (by cases h) | 1 => (by cases h) | 2 => (by kernel_rfl) | 3 => (by cases h) | 4 => (by cases h) | 5 => (by cases h) | 6 => (by cases h) | 7 => (by cases h) | 8 => (by cases h) | n + 9 => (by cases h)
  ag := fun i x h => match i with | 0 => (by kernel_rfl) | 1 => (by kernel_rfl) | 2 => (by cases h) | 3 => (by kernel_rfl) | 4 => (by kernel_rfl) | 5 => (by kernel_rfl) | 6 => (by kernel_rfl) | 7 => (by kernel_rfl) | 8 => (by kernel_rfl) | n + 9 => (by kernel_rfl)
  dec := fun i => match i with | 0 => dec0_ok | 1 => dec1_ok | 2 => dec2_ok | 3 => dec3_ok | 4 => dec4_ok | 5 => dec5_ok | 6 => dec6_ok | 7 => dec7_ok | 8 => dec8_ok | n + 9 => fun cs x h => (by cases h)
theorem is_law06_Over : Is prog 5 f5.ntmps (resOf prog f5) (bd prog f5) := Is.of (by kernel_rfl) (by kernel_rfl)
theorem is_stringslite_IndexByte : Is prog 79 f79.ntmps (resOf prog f79) (bd prog f79) := Is.of (by kernel_rfl) (by kernel_rfl)
theorem is_stringslite_Index : Is prog 68 f68.ntmps (resOf prog f68) (bd prog f68) := Is.of (by kernel_rfl) (by kernel_rfl)
theorem is_stringslite_Cut : Is prog 58 f58.ntmps (resOf prog f58) (bd prog f58) := Is.of (by kernel_rfl) (by kernel_rfl)
theorem is_strings_Cut : Is prog 44 f44.ntmps (resOf prog f44) (bd prog f44) := Is.of (by kernel_rfl) (by kernel_rfl)
theorem is_strings_Count : Is prog 70 f70.ntmps (resOf prog f70) (bd prog f70) := Is.of (by kernel_rfl) (by kernel_rfl)
theorem is_strings_Index : Is prog 71 f71.ntmps (resOf prog f71) (bd prog f71) := Is.of (by kernel_rfl) (by kernel_rfl)
theorem is_strings_genSplit : Is prog 59 f59.ntmps (resOf prog f59) (bd prog f59) := Is.of (by kernel_rfl) (by kernel_rfl)
theorem is_strings_Split : Is prog 45 f45.ntmps (resOf prog f45) (bd prog f45) := Is.of (by kernel_rfl) (by kernel_rfl)
theorem is_value_Word : Is prog 60 f60.ntmps (resOf prog f60) (bd prog f60) := Is.of (by kernel_rfl) (by kernel_rfl)
theorem is_schema_kindOf : Is prog 46 f46.ntmps (resOf prog f46) (bd prog f46) := Is.of (by kernel_rfl) (by kernel_rfl)
theorem is_schema_letter : Is prog 72 f72.ntmps (resOf prog f72) (bd prog f72) := Is.of (by kernel_rfl) (by kernel_rfl)
theorem is_schema_Reserved : Is prog 73 f73.ntmps (resOf prog f73) (bd prog f73) := Is.of (by kernel_rfl) (by kernel_rfl)
theorem is_schema_tail : Is prog 74 f74.ntmps (resOf prog f74) (bd prog f74) := Is.of (by kernel_rfl) (by kernel_rfl)
theorem is_schema_Name : Is prog 61 f61.ntmps (resOf prog f61) (bd prog f61) := Is.of (by kernel_rfl) (by kernel_rfl)
theorem is_schema_Type_Field : Is prog 62 f62.ntmps (resOf prog f62) (bd prog f62) := Is.of (by kernel_rfl) (by kernel_rfl)
theorem is_schema_Type_check : Is prog 47 f47.ntmps (resOf prog f47) (bd prog f47) := Is.of (by kernel_rfl) (by kernel_rfl)
theorem is_schema_Find : Is prog 48 f48.ntmps (resOf prog f48) (bd prog f48) := Is.of (by kernel_rfl) (by kernel_rfl)
theorem is_schema_Check : Is prog 27 f27.ntmps (resOf prog f27) (bd prog f27) := Is.of (by kernel_rfl) (by kernel_rfl)
theorem is_schema_Parse : Is prog 26 f26.ntmps (resOf prog f26) (bd prog f26) := Is.of (by kernel_rfl) (by kernel_rfl)
theorem is_gate_New : Is prog 7 f7.ntmps (resOf prog f7) (bd prog f7) := Is.of (by kernel_rfl) (by kernel_rfl)
theorem is_gate_Gate_open : Is prog 35 f35.ntmps (resOf prog f35) (bd prog f35) := Is.of (by kernel_rfl) (by kernel_rfl)
theorem is_gate_Gate_Advance_L1 : Is prog 41 f41.ntmps (resOf prog f41) (bd prog f41) := Is.of (by kernel_rfl) (by kernel_rfl)
theorem is_gate_Gate_turn : Is prog 38 f38.ntmps (resOf prog f38) (bd prog f38) := Is.of (by kernel_rfl) (by kernel_rfl)
theorem is_gate_Gate_Advance : Is prog 18 f18.ntmps (resOf prog f18) (bd prog f18) := Is.of (by kernel_rfl) (by kernel_rfl)
theorem is_event_Event_ID : Is prog 25 f25.ntmps (resOf prog f25) (bd prog f25) := Is.of (by kernel_rfl) (by kernel_rfl)
theorem is_event_ID_may : Is prog 50 f50.ntmps (resOf prog f50) (bd prog f50) := Is.of (by kernel_rfl) (by kernel_rfl)
theorem is_value_core : Is prog 76 f76.ntmps (resOf prog f76) (bd prog f76) := Is.of (by kernel_rfl) (by kernel_rfl)
theorem is_value_number_whole : Is prog 110 f110.ntmps (resOf prog f110) (bd prog f110) := Is.of (by kernel_rfl) (by kernel_rfl)
theorem is_value_flag_whole : Is prog 111 f111.ntmps (resOf prog f111) (bd prog f111) := Is.of (by kernel_rfl) (by kernel_rfl)
theorem is_real_of : Is prog 86 f86.ntmps (resOf prog f86) (bd prog f86) := Is.of (by kernel_rfl) (by kernel_rfl)
theorem is_real_Clean : Is prog 77 f77.ntmps (resOf prog f77) (bd prog f77) := Is.of (by kernel_rfl) (by kernel_rfl)
theorem is_value_double_whole : Is prog 112 f112.ntmps (resOf prog f112) (bd prog f112) := Is.of (by kernel_rfl) (by kernel_rfl)
theorem is_value_words_whole : Is prog 113 f113.ntmps (resOf prog f113) (bd prog f113) := Is.of (by kernel_rfl) (by kernel_rfl)
theorem is_value_Check : Is prog 66 f66.ntmps (resOf prog f66) (bd prog f66) := Is.of (by kernel_rfl) (by kernel_rfl)
theorem is_schema_Fits : Is prog 51 f51.ntmps (resOf prog f51) (bd prog f51) := Is.of (by kernel_rfl) (by kernel_rfl)
theorem is_event_Check : Is prog 34 f34.ntmps (resOf prog f34) (bd prog f34) := Is.of (by kernel_rfl) (by kernel_rfl)
theorem is_gate_Gate_Why : Is prog 14 f14.ntmps (resOf prog f14) (bd prog f14) := Is.of (by kernel_rfl) (by kernel_rfl)
theorem is_gate_Gate_Accept_L1 : Is prog 39 f39.ntmps (resOf prog f39) (bd prog f39) := Is.of (by kernel_rfl) (by kernel_rfl)
theorem is_gate_Gate_Accept : Is prog 16 f16.ntmps (resOf prog f16) (bd prog f16) := Is.of (by kernel_rfl) (by kernel_rfl)
theorem is_gate_Gate_Close_L1 : Is prog 42 f42.ntmps (resOf prog f42) (bd prog f42) := Is.of (by kernel_rfl) (by kernel_rfl)
theorem is_gate_Gate_Close : Is prog 20 f20.ntmps (resOf prog f20) (bd prog f20) := Is.of (by kernel_rfl) (by kernel_rfl)
theorem is_gate_Gate_Least : Is prog 22 f22.ntmps (resOf prog f22) (bd prog f22) := Is.of (by kernel_rfl) (by kernel_rfl)
theorem is_slices_Equal_schema_Field : Is prog 57 f57.ntmps (resOf prog f57) (bd prog f57) := Is.of (by kernel_rfl) (by kernel_rfl)
theorem is_schema_Same_L1 : Is prog 56 f56.ntmps (resOf prog f56) (bd prog f56) := Is.of (by kernel_rfl) (by kernel_rfl)
theorem is_slices_EqualFunc_schema_Type : Is prog 55 f55.ntmps (resOf prog f55) (bd prog f55) := Is.of (by kernel_rfl) (by kernel_rfl)
theorem is_schema_Same : Is prog 43 f43.ntmps (resOf prog f43) (bd prog f43) := Is.of (by kernel_rfl) (by kernel_rfl)
theorem is_gate_Same : Is prog 24 f24.ntmps (resOf prog f24) (bd prog f24) := Is.of (by kernel_rfl) (by kernel_rfl)
theorem is_law32_awake : Is prog 6 f6.ntmps (resOf prog f6) (bd prog f6) := Is.of (by kernel_rfl) (by kernel_rfl)
theorem is_law06_Own : Is prog 8 f8.ntmps (resOf prog f8) (bd prog f8) := Is.of (by kernel_rfl) (by kernel_rfl)
theorem is_law04_Small : Is prog 32 f32.ntmps (resOf prog f32) (bd prog f32) := Is.of (by kernel_rfl) (by kernel_rfl)
theorem is_law07_Over : Is prog 12 f12.ntmps (resOf prog f12) (bd prog f12) := Is.of (by kernel_rfl) (by kernel_rfl)
theorem is_law06_Vals : Is prog 33 f33.ntmps (resOf prog f33) (bd prog f33) := Is.of (by kernel_rfl) (by kernel_rfl)
theorem is_law07_Own : Is prog 13 f13.ntmps (resOf prog f13) (bd prog f13) := Is.of (by kernel_rfl) (by kernel_rfl)
theorem is_law32_GateOnce : Is prog 4 f4.ntmps (resOf prog f4) (bd prog f4) := Is.of (by kernel_rfl) (by kernel_rfl)
def C_law06_Over : Con tb := .s 5 [true] (.c (.r 1) .n) (fun N a => s_law06_Over N a.1) (R := Int) (.p (.i .i64)) (fun _ => ⟨rfl, (by kernel_rfl)⟩)
def q_law06_Over_0 : LQ tb (((List schema_Type)) × (Int)) := (LQ.m [] [0, 3] (.c 0 (.r 1) (.c 3 (.i .i64) .n)) .n .n).re (fun a => (a.1.1, a.1.2.1)) (fun x => ((x.1, x.2, ()), (), ())) (fun _ => rfl)
def q_law06_Over_2 : LQ tb (((List schema_Type) × Int) × (Int)) := (LQ.m [] [0, 3, 4] (.c 0 (.r 1) (.c 3 (.i .i64) (.c 4 (.i .i64) .n))) .n .n).re (fun a => ((a.1.1, a.1.2.1), a.1.2.2.1)) (fun x => ((x.1.1, x.1.2, x.2, ()), (), ())) (fun _ => rfl)
def f_law06_Over_2 (N : Nat) (next0 : ((List schema_Type)) × (Int) → Option Int) (c : (List schema_Type) × Int) (next : Int → Option Int) (v : Int) : Option Int := s_law06_Over_2 N c.1 c.2 (fun u0 => next0 (c.1, u0)) (fun u0 => next u0) v
abbrev r_law06_Over_2 (N : Nat) (next0 : ((List schema_Type)) × (Int) → Option Int) : ((List schema_Type) × Int) × (Int) → Option Int := fun a => loopV (f_law06_Over_2 N next0 a.1) N a.2
def f_law06_Over_0 (N : Nat) (c : (List schema_Type)) (next : Int → Option Int) (v : Int) : Option Int := s_law06_Over_1 N c (fun u0 => next u0) v
abbrev r_law06_Over_0 (N : Nat) : ((List schema_Type)) × (Int) → Option Int := fun a => loopV (f_law06_Over_0 N a.1) N a.2
def C_stringslite_IndexByte : Con tb := .s 79 [true, true] (.c .s (.c (.i .u8) .n)) (fun N a => s_stringslite_IndexByte N a.1 a.2.1) (R := Int) (.p (.i .i64)) (fun _ => ⟨rfl, (by kernel_rfl)⟩)
def C_stringslite_Index_v860 : Con tb := .s 68 [true, false] (.c .s (.c (.ls [10]) .n)) (fun N a => s_stringslite_Index_v860 N a.1) (R := Int) (.p (.i .i64)) (fun _ => ⟨rfl, (by kernel_rfl)⟩)
def C_stringslite_Cut_v860 : Con tb := .s 58 [true, false] (.c .s (.c (.ls [10]) .n)) (fun N a => s_stringslite_Cut_v860 N a.1) (R := List UInt8 × List UInt8 × Bool) (.p (.tu (.c .s (.c .s (.o .b))))) (fun _ => ⟨rfl, (by kernel_rfl)⟩)
def C_strings_Cut_v860 : Con tb := .s 44 [true, false] (.c .s (.c (.ls [10]) .n)) (fun N a => s_strings_Cut_v860 N a.1) (R := List UInt8 × List UInt8 × Bool) (.p (.tu (.c .s (.c .s (.o .b))))) (fun _ => ⟨rfl, (by kernel_rfl)⟩)
def C_strings_Count_v724 : Con tb := .s 70 [true, false] (.c .s (.c (.ls [32]) .n)) (fun N a => s_strings_Count_v724 N a.1) (R := Int) (.p (.i .i64)) (fun _ => ⟨rfl, (by kernel_rfl)⟩)
def C_stringslite_Index_v724 : Con tb := .s 68 [true, false] (.c .s (.c (.ls [32]) .n)) (fun N a => s_stringslite_Index_v724 N a.1) (R := Int) (.p (.i .i64)) (fun _ => ⟨rfl, (by kernel_rfl)⟩)
def C_strings_Index_v724 : Con tb := .s 71 [true, false] (.c .s (.c (.ls [32]) .n)) (fun N a => s_strings_Index_v724 N a.1) (R := Int) (.p (.i .i64)) (fun _ => ⟨rfl, (by kernel_rfl)⟩)
def C_strings_genSplit_v997 : Con tb := .p 59 [true, false, true, true] (.c .s (.c (.ls [32]) (.c (.i .i64) (.c (.i .i64) .n)))) (fun N a => s_strings_genSplit_v997 N a.1 a.2.2.1 a.2.2.2.1) (R := List (List UInt8)) (.p (.r 2)) (fun _ => rfl)
def q_strings_genSplit_v997_0 : LQ tb ((Int × Int) × ((List UInt8) × Int × (List (List UInt8)))) := (LQ.m [] [0, 1, 2, 3, 9, 10] (.c 0 .s (.c 1 (.ls [32]) (.c 2 (.i .i64) (.c 3 (.i .i64) (.c 9 (.own 0) (.c 10 (.i .i64) .n)))))) .n (.l 2 .n)).re (fun a => ((a.1.2.2.1, a.1.2.2.2.1), (a.1.1, a.1.2.2.2.2.2.1, a.2.2.1))) (fun x => ((x.2.1, (), x.1.1, x.1.2, (), x.2.2.1, ()), (), x.2.2.2, ())) (fun _ => rfl)
def f_strings_genSplit_v997_0 (N : Nat) (c : Int × Int) (next : ((List UInt8) × Int × (List (List UInt8))) → Option (List (List UInt8))) (v : (List UInt8) × Int × (List (List UInt8))) : Option (List (List UInt8)) := s_strings_genSplit_v997_1 N c.1 c.2 (fun u0 u1 u2 => next (u0, u1, u2)) v.1 v.2.1 v.2.2
abbrev r_strings_genSplit_v997_0 (N : Nat) : (Int × Int) × ((List UInt8) × Int × (List (List UInt8))) → Option (List (List UInt8)) := fun a => loopV (f_strings_genSplit_v997_0 N a.1) N a.2
def C_strings_Split_v724 : Con tb := .p 45 [true, false] (.c .s (.c (.ls [32]) .n)) (fun N a => s_strings_Split_v724 N a.1) (R := List (List UInt8)) (.p (.r 2)) (fun _ => rfl)
def C_stringslite_Index_v682 : Con tb := .s 68 [true, false] (.c .s (.c (.ls [58]) .n)) (fun N a => s_stringslite_Index_v682 N a.1) (R := Int) (.p (.i .i64)) (fun _ => ⟨rfl, (by kernel_rfl)⟩)
def C_stringslite_Cut_v682 : Con tb := .s 58 [true, false] (.c .s (.c (.ls [58]) .n)) (fun N a => s_stringslite_Cut_v682 N a.1) (R := List UInt8 × List UInt8 × Bool) (.p (.tu (.c .s (.c .s (.o .b))))) (fun _ => ⟨rfl, (by kernel_rfl)⟩)
def C_strings_Cut_v682 : Con tb := .s 44 [true, false] (.c .s (.c (.ls [58]) .n)) (fun N a => s_strings_Cut_v682 N a.1) (R := List UInt8 × List UInt8 × Bool) (.p (.tu (.c .s (.c .s (.o .b))))) (fun _ => ⟨rfl, (by kernel_rfl)⟩)
def C_value_Word : Con tb := .s 60 [true] (.c (.i .u8) .n) (fun N a => s_value_Word N a.1) (R := List UInt8) (.p .s) (fun _ => ⟨rfl, (by kernel_rfl)⟩)
def C_schema_kindOf : Con tb := .s 46 [true] (.c .s .n) (fun N a => s_schema_kindOf N a.1) (R := Int) (.p (.i .u8)) (fun _ => ⟨rfl, (by kernel_rfl)⟩)
def q_schema_kindOf_0 : LQ tb (((List UInt8)) × (Int)) := (LQ.m [] [0, 3] (.c 0 .s (.c 3 (.i .u8) .n)) .n .n).re (fun a => (a.1.1, a.1.2.1)) (fun x => ((x.1, x.2, ()), (), ())) (fun _ => rfl)
def f_schema_kindOf_0 (N : Nat) (c : (List UInt8)) (next : Int → Option Int) (v : Int) : Option Int := s_schema_kindOf_1 N c (fun u0 => next u0) v
abbrev r_schema_kindOf_0 (N : Nat) : ((List UInt8)) × (Int) → Option Int := fun a => loopV (f_schema_kindOf_0 N a.1) N a.2
def C_schema_letter : Con tb := .s 72 [true] (.c (.i .u8) .n) (fun N a => s_schema_letter N a.1) (R := Bool) (.p .b) (fun _ => ⟨rfl, (by kernel_rfl)⟩)
def C_schema_Reserved : Con tb := .s 73 [true] (.c .s .n) (fun N a => s_schema_Reserved N a.1) (R := Bool) (.p .b) (fun _ => ⟨rfl, (by kernel_rfl)⟩)
def C_schema_tail : Con tb := .s 74 [true] (.c (.i .u8) .n) (fun N a => s_schema_tail N a.1) (R := Bool) (.p .b) (fun _ => ⟨rfl, (by kernel_rfl)⟩)
def C_schema_Name : Con tb := .s 61 [true] (.c .s .n) (fun N a => s_schema_Name N a.1) (R := Bool) (.p .b) (fun _ => ⟨rfl, (by kernel_rfl)⟩)
def q_schema_Name_0 : LQ tb (((List UInt8)) × (Int)) := (LQ.m [] [0, 3] (.c 0 .s (.c 3 (.i .i64) .n)) .n .n).re (fun a => (a.1.1, a.1.2.1)) (fun x => ((x.1, x.2, ()), (), ())) (fun _ => rfl)
def f_schema_Name_0 (N : Nat) (c : (List UInt8)) (next : Int → Option Bool) (v : Int) : Option Bool := s_schema_Name_1 N c (fun u0 => next u0) v
abbrev r_schema_Name_0 (N : Nat) : ((List UInt8)) × (Int) → Option Bool := fun a => loopV (f_schema_Name_0 N a.1) N a.2
def C_schema_Type_Field : Con tb := .s 62 [true, true] (.c (.el tb_ok 1) (.c .s .n)) (fun N a => s_schema_Type_Field N a.1 a.2.1) (R := Int × Int) (.p (.tu (.c (.i .i64) (.o (.i .u8))))) (fun _ => ⟨rfl, (by kernel_rfl)⟩)
def q_schema_Type_Field_0 : LQ tb (((List UInt8) × (List schema_Field) × Int) × (Int)) := (LQ.m [] [1, 9, 10, 11] (.c 1 .s (.c 9 (.r 0) (.c 10 (.i .i64) (.c 11 (.i .i64) .n)))) .n .n).re (fun a => ((a.1.1, a.1.2.1, a.1.2.2.1), a.1.2.2.2.1)) (fun x => ((x.1.1, x.1.2.1, x.1.2.2, x.2, ()), (), ())) (fun _ => rfl)
def f_schema_Type_Field_0 (N : Nat) (c : (List UInt8) × (List schema_Field) × Int) (next : Int → Option (Int × Int)) (v : Int) : Option (Int × Int) := s_schema_Type_Field_1 N c.1 c.2.1 c.2.2 (fun u0 => next u0) v
abbrev r_schema_Type_Field_0 (N : Nat) : ((List UInt8) × (List schema_Field) × Int) × (Int) → Option (Int × Int) := fun a => loopV (f_schema_Type_Field_0 N a.1) N a.2
def C_schema_Type_check : Con tb := .s 47 [true] (.c (.el tb_ok 1) .n) (fun N a => s_schema_Type_check N a.1) (R := Int) (.p (.i .i64)) (fun _ => ⟨rfl, (by kernel_rfl)⟩)
def q_schema_Type_check_0 : LQ tb (((List schema_Field) × Int × (List UInt8) × (List schema_Field)) × (Int)) := (LQ.m [] [1, 16, 17, 18] (.c 1 (.ptr 0 0) (.c 16 (.r 0) (.c 17 (.i .i64) (.c 18 (.i .i64) .n)))) (.c (.c .s (.c (.r 0) .n)) .n) .n).re (fun a => ((a.1.2.1, a.1.2.2.1, a.2.1.1.1, a.2.1.1.2.1), a.1.2.2.2.1)) (fun x => (((), x.1.1, x.1.2.1, x.2, ()), ((x.1.2.2.1, x.1.2.2.2, ()), ()), ())) (fun _ => rfl)
def f_schema_Type_check_0 (N : Nat) (c : (List schema_Field) × Int × (List UInt8) × (List schema_Field)) (next : Int → Option Int) (v : Int) : Option Int := s_schema_Type_check_1 N c.1 c.2.1 c.2.2.1 c.2.2.2 (fun u0 => next u0) v
abbrev r_schema_Type_check_0 (N : Nat) : ((List schema_Field) × Int × (List UInt8) × (List schema_Field)) × (Int) → Option Int := fun a => loopV (f_schema_Type_check_0 N a.1) N a.2
def C_slices_Clone_schema_Field : Con tb := .clone 63 0 (fun _ s => shClone 24 s)
def C_schema_Find : Con tb := .p 48 [true, true] (.c (.r 1) (.c .s .n)) (fun N a => s_schema_Find N a.1 a.2.1) (R := schema_Type × Bool) (.p (.tu (.c (.el tb_ok 1) (.o .b)))) (fun _ => rfl)
def q_schema_Find_0 : LQ tb (((List UInt8) × (List schema_Type) × Int) × (Int)) := (LQ.m [] [1, 4, 8, 9, 10] (.c 1 .s (.c 4 (.ptr 0 0) (.c 8 (.r 1) (.c 9 (.i .i64) (.c 10 (.i .i64) .n))))) (.c (.c (.ls []) (.c .e .n)) .n) .n).re (fun a => ((a.1.1, a.1.2.2.1, a.1.2.2.2.1), a.1.2.2.2.2.1)) (fun x => ((x.1.1, (), x.1.2.1, x.1.2.2, x.2, ()), (((), (), ()), ()), ())) (fun _ => rfl)
def f_schema_Find_0 (N : Nat) (c : (List UInt8) × (List schema_Type) × Int) (next : Int → Option (schema_Type × Bool)) (v : Int) : Option (schema_Type × Bool) := s_schema_Find_1 N c.1 c.2.1 c.2.2 (fun u0 => next u0) v
abbrev r_schema_Find_0 (N : Nat) : ((List UInt8) × (List schema_Type) × Int) × (Int) → Option (schema_Type × Bool) := fun a => loopV (f_schema_Find_0 N a.1) N a.2
def C_schema_Check : Con tb := .s 27 [true] (.c (.r 1) .n) (fun N a => s_schema_Check N a.1) (R := Int) (.p (.i .i64)) (fun _ => ⟨rfl, (by kernel_rfl)⟩)
def q_schema_Check_0 : LQ tb (((List schema_Type) × (List schema_Type) × Int) × (Int)) := (LQ.m [] [0, 11, 12, 13] (.c 0 (.r 1) (.c 11 (.r 1) (.c 12 (.i .i64) (.c 13 (.i .i64) .n)))) .n .n).re (fun a => ((a.1.1, a.1.2.1, a.1.2.2.1), a.1.2.2.2.1)) (fun x => ((x.1.1, x.1.2.1, x.1.2.2, x.2, ()), (), ())) (fun _ => rfl)
def f_schema_Check_0 (N : Nat) (c : (List schema_Type) × (List schema_Type) × Int) (next : Int → Option Int) (v : Int) : Option Int := s_schema_Check_1 N c.1 c.2.1 c.2.2 (fun u0 => next u0) v
abbrev r_schema_Check_0 (N : Nat) : ((List schema_Type) × (List schema_Type) × Int) × (Int) → Option Int := fun a => loopV (f_schema_Check_0 N a.1) N a.2
def C_schema_Parse : Con tb := .p 26 [true] (.c .s .n) (fun N a => s_schema_Parse N a.1) (R := List schema_Type × Int) (.p (.tu (.c (.r 1) (.o (.i .i64))))) (fun _ => rfl)
def q_schema_Parse_0 : LQ tb ((Unit) × ((List UInt8) × (List schema_Type))) := (LQ.m [(4, none, 1)] [0, 4, 5] (.c 0 .s (.c 4 (.own 0) (.c 5 (.lb true) .n))) .n (.l 1 .n)).re (fun a => ((), (a.1.1, a.2.2.1))) (fun x => ((x.2.1, (), (), ()), (), x.2.2, ())) (fun _ => rfl)
def q_schema_Parse_2 : LQ tb (((List UInt8) × Bool × (List (List UInt8)) × Int × (List UInt8)) × (Int × (List schema_Type) × (List schema_Field))) := (LQ.m [(10, some 1, 0)] [4, 5, 7, 8, 10, 33, 34, 35] (.c 4 (.own 0) (.c 5 (.lb true) (.c 7 .s (.c 8 .b (.c 10 (.ptr 0 0) (.c 33 (.r 2) (.c 34 (.i .i64) (.c 35 (.i .i64) .n)))))))) (.c (.c .s (.c (.own 1) .n)) .n) (.l 1 (.l 0 .n))).re (fun a => ((a.1.2.2.1, a.1.2.2.2.1, a.1.2.2.2.2.2.1, a.1.2.2.2.2.2.2.1, a.2.1.1.1), (a.1.2.2.2.2.2.2.2.1, a.2.2.1, a.2.2.2.1))) (fun x => (((), (), x.1.1, x.1.2.1, (), x.1.2.2.1, x.1.2.2.2.1, x.2.1, ()), ((x.1.2.2.2.2, (), ()), ()), x.2.2.1, x.2.2.2, ())) (fun _ => rfl)
def f_schema_Parse_2 (N : Nat) (next0 : (Unit) × ((List UInt8) × (List schema_Type)) → Option (List schema_Type × Int)) (c : (List UInt8) × Bool × (List (List UInt8)) × Int × (List UInt8)) (next : (Int × (List schema_Type) × (List schema_Field)) → Option (List schema_Type × Int)) (v : Int × (List schema_Type) × (List schema_Field)) : Option (List schema_Type × Int) := s_schema_Parse_2 N c.1 c.2.1 c.2.2.1 c.2.2.2.1 c.2.2.2.2 (fun u0 u1 => next0 ((), (u0, u1))) (fun u0 u1 u2 => next (u0, u1, u2)) v.1 v.2.1 v.2.2
abbrev r_schema_Parse_2 (N : Nat) (next0 : (Unit) × ((List UInt8) × (List schema_Type)) → Option (List schema_Type × Int)) : ((List UInt8) × Bool × (List (List UInt8)) × Int × (List UInt8)) × (Int × (List schema_Type) × (List schema_Field)) → Option (List schema_Type × Int) := fun a => loopV (f_schema_Parse_2 N next0 a.1) N a.2
def f_schema_Parse_0 (N : Nat) (c : Unit) (next : ((List UInt8) × (List schema_Type)) → Option (List schema_Type × Int)) (v : (List UInt8) × (List schema_Type)) : Option (List schema_Type × Int) := s_schema_Parse_1 N (fun u0 u1 => next (u0, u1)) v.1 v.2
abbrev r_schema_Parse_0 (N : Nat) : (Unit) × ((List UInt8) × (List schema_Type)) → Option (List schema_Type × Int) := fun a => loopV (f_schema_Parse_0 N a.1) N a.2
def C_slices_Clone_schema_Type_D : Con tb := .cloneD 28 1 (fun _ s => shClone 40 s)
def C_gate_New : Con tb := .p 7 [true, true] (.c (.r 1) (.c (.i .i64) .n)) (fun N a => s_gate_New N a.1 a.2.1) (R := gate_Gate × Int) (.p (.tu (.c (.el tb_ok 4) (.o (.i .i64))))) (fun _ => rfl)
def q_gate_New_0 : LQ tb ((Int × (List schema_Type)) × (Int × (List gate_Source))) := (LQ.m [] [4, 6, 27, 28] (.c 4 (.ptr 0 0) (.c 6 (.ptr 1 0) (.c 27 (.i .i64) (.c 28 (.i .i64) .n)))) (.c (.c .e (.c .e .n)) (.c (.c (.r 1) (.c (.own 0) .n)) .n)) (.l 3 .n)).re (fun a => ((a.1.2.2.1, a.2.1.2.1.1), (a.1.2.2.2.1, a.2.2.1))) (fun x => (((), (), x.1.1, x.2.1, ()), (((), (), ()), (x.1.2, (), ()), ()), x.2.2, ())) (fun _ => rfl)
def f_gate_New_0 (N : Nat) (c : Int × (List schema_Type)) (next : (Int × (List gate_Source)) → Option (gate_Gate × Int)) (v : Int × (List gate_Source)) : Option (gate_Gate × Int) := s_gate_New_1 N c.1 c.2 (fun u0 u1 => next (u0, u1)) v.1 v.2
abbrev r_gate_New_0 (N : Nat) : (Int × (List schema_Type)) × (Int × (List gate_Source)) → Option (gate_Gate × Int) := fun a => loopV (f_gate_New_0 N a.1) N a.2
def C_gate_Gate_open : Con tb := .p 35 [true, true] (.c (.el tb_ok 4) (.c (.i .i64) .n)) (fun N a => s_gate_Gate_open N a.1 a.2.1) (R := gate_Source × Int) (.p (.tu (.c (.el tb_ok 3) (.o (.i .i64))))) (fun _ => rfl)
def C_slices_Clone_gate_Source : Con tb := .clone 54 3 (fun _ s => shClone 24 s)
def C_gate_Gate_Advance_L1_v469 : Con tb := .m 41 [false, false] (.c (.ep 0 3 0) (.c (.ptr 0 0) .n)) (.c (.c (.i .i64) .n) .n) (.l 3 .n) (fun N a => s_gate_Gate_Advance_L1_v469 N a.1.1 a.2.1.1.1 a.2.2.1) (R := Int × List gate_Source) (.m (R := Int × List gate_Source) (.tu .n) (.c (.c (.i .i64) .n) .n) (.l 3 .n) (fun z => (z.2.1.1.1, z.2.2.1)) (fun r => ((), ((r.1, ()), ()), r.2, ())) (fun _ => rfl))
def C_gate_Gate_turn_v637 : Con tb := .m 38 [true, true, false] (.c (.el tb_ok 4) (.c (.i .i64) (.c (.fn 41 .n (.c (.ptr 0 0) .n)) .n))) (.c (.c (.i .i64) .n) .n) .n (fun N a => s_gate_Gate_turn_v637 N a.1.1 a.1.2.1 a.2.1.1.1) (R := gate_Gate × Int) (.m (R := gate_Gate × Int) (.el tb_ok 4) (.c (.c (.i .i64) .n) .n) .n (fun z => (z.1, z.2.1.1.1)) (fun r => (r.1, ((r.2, ()), ()), ())) (fun _ => rfl))
def C_gate_Gate_Advance : Con tb := .p 18 [true, true, true] (.c (.el tb_ok 4) (.c (.i .i64) (.c (.i .i64) .n))) (fun N a => s_gate_Gate_Advance N a.1 a.2.1 a.2.2.1) (R := gate_Gate × Int) (.p (.tu (.c (.el tb_ok 4) (.o (.i .i64))))) (fun _ => rfl)
def C_event_Event_ID : Con tb := .s 25 [true] (.c (.el tb_ok 6) .n) (fun N a => s_event_Event_ID N a.1) (R := event_ID) (.p (.el tb_ok 7)) (fun _ => ⟨rfl, (by kernel_rfl)⟩)
def C_event_ID_may : Con tb := .s 50 [true] (.c (.el tb_ok 7) .n) (fun N a => s_event_ID_may N a.1) (R := Bool) (.p .b) (fun _ => ⟨rfl, (by kernel_rfl)⟩)
def C_value_core : Con tb := .p 76 [true] (.c (.el tb_ok 5) .n) (fun N a => s_value_core N a.1) (R := Int ⊕ Int ⊕ Int ⊕ (List UInt8) ⊕ Unit) (.or (.p (.ifc 132 (.i .i64))) (.or (.p (.ifc 133 (.i .i64))) (.or (.p (.ifc 134 (.i .u64))) (.or (.p (.ifc 136 .s)) (.p .ni))))) (fun r => by rcases r with _ | _ | _ | _ | _ <;> exact rfl)
def C_value_number_whole : Con tb := .s 110 [true] (.c (.i .i64) .n) (fun N a => s_value_number_whole N a.1) (R := value_Value) (.p (.el tb_ok 5)) (fun _ => ⟨rfl, (by kernel_rfl)⟩)
def C_value_flag_whole : Con tb := .s 111 [true] (.c (.i .i64) .n) (fun N a => s_value_flag_whole N a.1) (R := value_Value) (.p (.el tb_ok 5)) (fun _ => ⟨rfl, (by kernel_rfl)⟩)
def C_real_of : Con tb := .s 86 [true] (.c (.i .u64) .n) (fun N a => s_real_of N a.1) (R := Nat) (.p (.f .f64)) (fun _ => ⟨rfl, (by kernel_rfl)⟩)
def C_real_Clean : Con tb := .s 77 [true] (.c (.i .u64) .n) (fun N a => s_real_Clean N a.1) (R := Int) (.p (.i .u64)) (fun _ => ⟨rfl, (by kernel_rfl)⟩)
def C_value_double_whole : Con tb := .s 112 [true] (.c (.i .u64) .n) (fun N a => s_value_double_whole N a.1) (R := value_Value) (.p (.el tb_ok 5)) (fun _ => ⟨rfl, (by kernel_rfl)⟩)
def C_value_words_whole : Con tb := .s 113 [true] (.c .s .n) (fun N a => s_value_words_whole N a.1) (R := value_Value) (.p (.el tb_ok 5)) (fun _ => ⟨rfl, (by kernel_rfl)⟩)
def C_value_Check : Con tb := .s 66 [true] (.c (.el tb_ok 5) .n) (fun N a => s_value_Check N a.1) (R := Int) (.p (.i .i64)) (fun _ => ⟨rfl, (by kernel_rfl)⟩)
def C_schema_Fits : Con tb := .s 51 [true, true] (.c (.el tb_ok 1) (.c (.r 5) .n)) (fun N a => s_schema_Fits N a.1 a.2.1) (R := Int) (.p (.i .i64)) (fun _ => ⟨rfl, (by kernel_rfl)⟩)
def q_schema_Fits_0 : LQ tb (((List value_Value) × Int × (List UInt8) × (List schema_Field)) × (Int)) := (LQ.m [] [2, 14, 15, 16] (.c 2 (.ptr 0 0) (.c 14 (.r 5) (.c 15 (.i .i64) (.c 16 (.i .i64) .n)))) (.c (.c .s (.c (.r 0) .n)) .n) .n).re (fun a => ((a.1.2.1, a.1.2.2.1, a.2.1.1.1, a.2.1.1.2.1), a.1.2.2.2.1)) (fun x => (((), x.1.1, x.1.2.1, x.2, ()), ((x.1.2.2.1, x.1.2.2.2, ()), ()), ())) (fun _ => rfl)
def f_schema_Fits_0 (N : Nat) (c : (List value_Value) × Int × (List UInt8) × (List schema_Field)) (next : Int → Option Int) (v : Int) : Option Int := s_schema_Fits_1 N c.1 c.2.1 c.2.2.2 (fun u0 => next u0) v
abbrev r_schema_Fits_0 (N : Nat) : ((List value_Value) × Int × (List UInt8) × (List schema_Field)) × (Int) → Option Int := fun a => loopV (f_schema_Fits_0 N a.1) N a.2
def C_event_Check : Con tb := .s 34 [true, true] (.c (.r 1) (.c (.el tb_ok 6) .n)) (fun N a => s_event_Check N a.1 a.2.1) (R := Int) (.p (.i .i64)) (fun _ => ⟨rfl, (by kernel_rfl)⟩)
def C_gate_Gate_Why : Con tb := .s 14 [true, true] (.c (.el tb_ok 4) (.c (.el tb_ok 6) .n)) (fun N a => s_gate_Gate_Why N a.1 a.2.1) (R := Int) (.p (.i .i64)) (fun _ => ⟨rfl, (by kernel_rfl)⟩)
def C_gate_Gate_Accept_L1_v149 : Con tb := .m 39 [false, false] (.c (.ep 0 3 0) (.c (.ptr 0 0) .n)) (.c (.c (.i .i64) (.c (.i .i64) (.c (.i .i64) (.c .s (.c (.r 5) .n))))) .n) (.l 3 .n) (fun N a => s_gate_Gate_Accept_L1_v149 N a.1.1 a.2.1.1.1 a.2.1.1.2.1 a.2.1.1.2.2.1 a.2.1.1.2.2.2.1 a.2.1.1.2.2.2.2.1 a.2.2.1) (R := Int × Int × Int × List UInt8 × List value_Value × List gate_Source) (.m (R := Int × Int × Int × List UInt8 × List value_Value × List gate_Source) (.tu .n) (.c (.c (.i .i64) (.c (.i .i64) (.c (.i .i64) (.c .s (.c (.r 5) .n))))) .n) (.l 3 .n) (fun z => (z.2.1.1.1, z.2.1.1.2.1, z.2.1.1.2.2.1, z.2.1.1.2.2.2.1, z.2.1.1.2.2.2.2.1, z.2.2.1)) (fun r => ((), ((r.1, r.2.1, r.2.2.1, r.2.2.2.1, r.2.2.2.2.1, ()), ()), r.2.2.2.2.2, ())) (fun _ => rfl))
def C_gate_Gate_turn_v778 : Con tb := .m 38 [true, true, false] (.c (.el tb_ok 4) (.c (.i .i64) (.c (.fn 39 .n (.c (.ptr 0 0) .n)) .n))) (.c (.c (.i .i64) (.c (.i .i64) (.c (.i .i64) (.c .s (.c (.r 5) .n))))) .n) .n (fun N a => s_gate_Gate_turn_v778 N a.1.1 a.1.2.1 a.2.1.1.1 a.2.1.1.2.1 a.2.1.1.2.2.1 a.2.1.1.2.2.2.1 a.2.1.1.2.2.2.2.1) (R := gate_Gate × Int × Int × Int × List UInt8 × List value_Value) (.m (R := gate_Gate × Int × Int × Int × List UInt8 × List value_Value) (.el tb_ok 4) (.c (.c (.i .i64) (.c (.i .i64) (.c (.i .i64) (.c .s (.c (.r 5) .n))))) .n) .n (fun z => (z.1, z.2.1.1.1, z.2.1.1.2.1, z.2.1.1.2.2.1, z.2.1.1.2.2.2.1, z.2.1.1.2.2.2.2.1)) (fun r => (r.1, ((r.2.1, r.2.2.1, r.2.2.2.1, r.2.2.2.2.1, r.2.2.2.2.2, ()), ()), ())) (fun _ => rfl))
def C_gate_Gate_Accept : Con tb := .p 16 [true, true] (.c (.el tb_ok 4) (.c (.el tb_ok 6) .n)) (fun N a => s_gate_Gate_Accept N a.1 a.2.1) (R := gate_Gate × Int) (.p (.tu (.c (.el tb_ok 4) (.o (.i .i64))))) (fun _ => rfl)
def C_gate_Gate_Close_L1_v462 : Con tb := .m 42 [false] (.c (.ep 0 3 0) .n) .n (.l 3 .n) (fun N a => s_gate_Gate_Close_L1_v462 N a.1.1 a.2.2.1) (R := List gate_Source) (.m (R := List gate_Source) (.tu .n) .n (.l 3 .n) (fun z => z.2.2.1) (fun r => ((), (), r, ())) (fun _ => rfl))
def C_gate_Gate_turn_v071 : Con tb := .p 38 [true, true, false] (.c (.el tb_ok 4) (.c (.i .i64) (.c (.fn 42 .n .n) .n))) (fun N a => s_gate_Gate_turn_v071 N a.1 a.2.1) (R := gate_Gate) (.p (.el tb_ok 4)) (fun _ => rfl)
def C_gate_Gate_Close : Con tb := .p 20 [true, true] (.c (.el tb_ok 4) (.c (.i .i64) .n)) (fun N a => s_gate_Gate_Close N a.1 a.2.1) (R := gate_Gate × Int) (.p (.tu (.c (.el tb_ok 4) (.o (.i .i64))))) (fun _ => rfl)
def C_gate_Gate_Least : Con tb := .s 22 [true] (.c (.el tb_ok 4) .n) (fun N a => s_gate_Gate_Least N a.1) (R := Int) (.p (.i .i64)) (fun _ => ⟨rfl, (by kernel_rfl)⟩)
def q_gate_Gate_Least_0 : LQ tb (((List gate_Source) × Int) × (Int × Int)) := (LQ.m [] [3, 7, 8, 9] (.c 3 (.i .i64) (.c 7 (.r 3) (.c 8 (.i .i64) (.c 9 (.i .i64) .n)))) .n .n).re (fun a => ((a.1.2.1, a.1.2.2.1), (a.1.1, a.1.2.2.2.1))) (fun x => ((x.2.1, x.1.1, x.1.2, x.2.2, ()), (), ())) (fun _ => rfl)
def f_gate_Gate_Least_0 (N : Nat) (c : (List gate_Source) × Int) (next : (Int × Int) → Option Int) (v : Int × Int) : Option Int := s_gate_Gate_Least_1 N c.1 c.2 (fun u0 u1 => next (u0, u1)) v.1 v.2
abbrev r_gate_Gate_Least_0 (N : Nat) : ((List gate_Source) × Int) × (Int × Int) → Option Int := fun a => loopV (f_gate_Gate_Least_0 N a.1) N a.2
def C_slices_Equal_schema_Field : Con tb := .s 57 [true, true] (.c (.r 0) (.c (.r 0) .n)) (fun N a => s_slices_Equal_schema_Field N a.1 a.2.1) (R := Bool) (.p .b) (fun _ => ⟨rfl, (by kernel_rfl)⟩)
def q_slices_Equal_schema_Field_0 : LQ tb (((List schema_Field) × (List schema_Field) × Int) × (Int)) := (LQ.m [] [0, 1, 12, 13] (.c 0 (.r 0) (.c 1 (.r 0) (.c 12 (.i .i64) (.c 13 (.i .i64) .n)))) .n .n).re (fun a => ((a.1.1, a.1.2.1, a.1.2.2.1), a.1.2.2.2.1)) (fun x => ((x.1.1, x.1.2.1, x.1.2.2, x.2, ()), (), ())) (fun _ => rfl)
def f_slices_Equal_schema_Field_0 (N : Nat) (c : (List schema_Field) × (List schema_Field) × Int) (next : Int → Option Bool) (v : Int) : Option Bool := s_slices_Equal_schema_Field_1 N c.1 c.2.1 c.2.2 (fun u0 => next u0) v
abbrev r_slices_Equal_schema_Field_0 (N : Nat) : ((List schema_Field) × (List schema_Field) × Int) × (Int) → Option Bool := fun a => loopV (f_slices_Equal_schema_Field_0 N a.1) N a.2
def C_schema_Same_L1 : Con tb := .s 56 [true, true] (.c (.el tb_ok 1) (.c (.el tb_ok 1) .n)) (fun N a => s_schema_Same_L1 N a.1 a.2.1) (R := Bool) (.p .b) (fun _ => ⟨rfl, (by kernel_rfl)⟩)
def C_slices_EqualFunc_schema_Type_v029 : Con tb := .s 55 [true, true, false] (.c (.r 1) (.c (.r 1) (.c (.fn 56 .n .n) .n))) (fun N a => s_slices_EqualFunc_schema_Type_v029 N a.1 a.2.1) (R := Bool) (.p .b) (fun _ => ⟨rfl, (by kernel_rfl)⟩)
def q_slices_EqualFunc_schema_Type_v029_0 : LQ tb (((List schema_Type) × (List schema_Type) × Int) × (Int)) := (LQ.m [] [1, 2, 15, 16, 17] (.c 1 (.r 1) (.c 2 (.fn 56 .n .n) (.c 15 (.r 1) (.c 16 (.i .i64) (.c 17 (.i .i64) .n))))) .n .n).re (fun a => ((a.1.1, a.1.2.2.1, a.1.2.2.2.1), a.1.2.2.2.2.1)) (fun x => ((x.1.1, ((), ()), x.1.2.1, x.1.2.2, x.2, ()), (), ())) (fun _ => rfl)
def f_slices_EqualFunc_schema_Type_v029_0 (N : Nat) (c : (List schema_Type) × (List schema_Type) × Int) (next : Int → Option Bool) (v : Int) : Option Bool := s_slices_EqualFunc_schema_Type_v029_1 N c.1 c.2.1 c.2.2 (fun u0 => next u0) v
abbrev r_slices_EqualFunc_schema_Type_v029_0 (N : Nat) : ((List schema_Type) × (List schema_Type) × Int) × (Int) → Option Bool := fun a => loopV (f_slices_EqualFunc_schema_Type_v029_0 N a.1) N a.2
def C_schema_Same : Con tb := .s 43 [true, true] (.c (.r 1) (.c (.r 1) .n)) (fun N a => s_schema_Same N a.1 a.2.1) (R := Bool) (.p .b) (fun _ => ⟨rfl, (by kernel_rfl)⟩)
def C_gate_Same : Con tb := .s 24 [true, true] (.c (.el tb_ok 4) (.c (.el tb_ok 4) .n)) (fun N a => s_gate_Same N a.1 a.2.1) (R := Bool) (.p .b) (fun _ => ⟨rfl, (by kernel_rfl)⟩)
def q_gate_Same_0 : LQ tb (((List gate_Source) × Int × (List schema_Type) × (List gate_Source)) × (Int)) := (LQ.m [] [3, 23, 24, 25] (.c 3 (.ptr 0 0) (.c 23 (.r 3) (.c 24 (.i .i64) (.c 25 (.i .i64) .n)))) (.c (.c (.r 1) (.c (.r 3) .n)) .n) .n).re (fun a => ((a.1.2.1, a.1.2.2.1, a.2.1.1.1, a.2.1.1.2.1), a.1.2.2.2.1)) (fun x => (((), x.1.1, x.1.2.1, x.2, ()), ((x.1.2.2.1, x.1.2.2.2, ()), ()), ())) (fun _ => rfl)
def f_gate_Same_0 (N : Nat) (c : (List gate_Source) × Int × (List schema_Type) × (List gate_Source)) (next : Int → Option Bool) (v : Int) : Option Bool := s_gate_Same_1 N c.1 c.2.1 c.2.2.2 (fun u0 => next u0) v
abbrev r_gate_Same_0 (N : Nat) : ((List gate_Source) × Int × (List schema_Type) × (List gate_Source)) × (Int) → Option Bool := fun a => loopV (f_gate_Same_0 N a.1) N a.2
def C_law32_awake : Con tb := .s 6 [] .n (fun N a => s_law32_awake N) (R := Bool) (.p .b) (fun _ => ⟨rfl, (by kernel_rfl)⟩)
def C_law06_Own : Con tb := .p 8 [true] (.c (.r 1) .n) (fun N a => s_law06_Own N a.1) (R := List schema_Type) (.p (.r 1)) (fun _ => rfl)
def q_law06_Own_0 : LQ tb (((List schema_Type)) × (Int × (List schema_Type))) := (LQ.m [(3, none, 1)] [0, 3, 4] (.c 0 (.r 1) (.c 3 (.own 0) (.c 4 (.i .i64) .n))) .n (.l 1 .n)).re (fun a => (a.1.1, (a.1.2.2.1, a.2.2.1))) (fun x => ((x.1, (), x.2.1, ()), (), x.2.2, ())) (fun _ => rfl)
def q_law06_Own_2 : LQ tb (((List schema_Type) × Int × (List UInt8)) × (Int × (List schema_Type) × (List schema_Field))) := (LQ.m [(5, some 1, 0)] [0, 3, 4, 5, 6] (.c 0 (.r 1) (.c 3 (.own 0) (.c 4 (.i .i64) (.c 5 (.ptr 0 0) (.c 6 (.i .i64) .n))))) (.c (.c .s (.c (.own 1) .n)) .n) (.l 1 (.l 0 .n))).re (fun a => ((a.1.1, a.1.2.2.1, a.2.1.1.1), (a.1.2.2.2.2.1, a.2.2.1, a.2.2.2.1))) (fun x => ((x.1.1, (), x.1.2.1, (), x.2.1, ()), ((x.1.2.2, (), ()), ()), x.2.2.1, x.2.2.2, ())) (fun _ => rfl)
def f_law06_Own_2 (N : Nat) (next0 : ((List schema_Type)) × (Int × (List schema_Type)) → Option (List schema_Type)) (c : (List schema_Type) × Int × (List UInt8)) (next : (Int × (List schema_Type) × (List schema_Field)) → Option (List schema_Type)) (v : Int × (List schema_Type) × (List schema_Field)) : Option (List schema_Type) := s_law06_Own_2 N c.1 c.2.1 c.2.2 (fun u0 u1 => next0 (c.1, (u0, u1))) (fun u0 u1 u2 => next (u0, u1, u2)) v.1 v.2.1 v.2.2
abbrev r_law06_Own_2 (N : Nat) (next0 : ((List schema_Type)) × (Int × (List schema_Type)) → Option (List schema_Type)) : ((List schema_Type) × Int × (List UInt8)) × (Int × (List schema_Type) × (List schema_Field)) → Option (List schema_Type) := fun a => loopV (f_law06_Own_2 N next0 a.1) N a.2
def f_law06_Own_0 (N : Nat) (c : (List schema_Type)) (next : (Int × (List schema_Type)) → Option (List schema_Type)) (v : Int × (List schema_Type)) : Option (List schema_Type) := s_law06_Own_1 N c (fun u0 u1 => next (u0, u1)) v.1 v.2
abbrev r_law06_Own_0 (N : Nat) : ((List schema_Type)) × (Int × (List schema_Type)) → Option (List schema_Type) := fun a => loopV (f_law06_Own_0 N a.1) N a.2
def C_law04_Small : Con tb := .s 32 [true] (.c (.el tb_ok 5) .n) (fun N a => s_law04_Small N a.1) (R := Int) (.p (.i .i64)) (fun _ => ⟨rfl, (by kernel_rfl)⟩)
def C_law07_Over : Con tb := .s 12 [true, true] (.c (.r 6) (.c (.i .i64) .n)) (fun N a => s_law07_Over N a.1 a.2.1) (R := Int) (.p (.i .i64)) (fun _ => ⟨rfl, (by kernel_rfl)⟩)
def q_law07_Over_0 : LQ tb (((List event_Event)) × (Int)) := (LQ.m [] [0, 5] (.c 0 (.r 6) (.c 5 (.i .i64) .n)) .n .n).re (fun a => (a.1.1, a.1.2.1)) (fun x => ((x.1, x.2, ()), (), ())) (fun _ => rfl)
def q_law07_Over_2 : LQ tb (((List event_Event) × Int) × (Int)) := (LQ.m [] [0, 5, 6] (.c 0 (.r 6) (.c 5 (.i .i64) (.c 6 (.i .i64) .n))) .n .n).re (fun a => ((a.1.1, a.1.2.1), a.1.2.2.1)) (fun x => ((x.1.1, x.1.2, x.2, ()), (), ())) (fun _ => rfl)
def f_law07_Over_2 (N : Nat) (next0 : ((List event_Event)) × (Int) → Option Int) (c : (List event_Event) × Int) (next : Int → Option Int) (v : Int) : Option Int := s_law07_Over_2 N c.1 c.2 (fun u0 => next0 (c.1, u0)) (fun u0 => next u0) v
abbrev r_law07_Over_2 (N : Nat) (next0 : ((List event_Event)) × (Int) → Option Int) : ((List event_Event) × Int) × (Int) → Option Int := fun a => loopV (f_law07_Over_2 N next0 a.1) N a.2
def f_law07_Over_0 (N : Nat) (c : (List event_Event)) (next : Int → Option Int) (v : Int) : Option Int := s_law07_Over_1 N c (fun u0 => next u0) v
abbrev r_law07_Over_0 (N : Nat) : ((List event_Event)) × (Int) → Option Int := fun a => loopV (f_law07_Over_0 N a.1) N a.2
def C_law06_Vals : Con tb := .p 33 [true] (.c (.r 5) .n) (fun N a => s_law06_Vals N a.1) (R := List value_Value) (.p (.r 5)) (fun _ => rfl)
def q_law06_Vals_0 : LQ tb (((List value_Value)) × (Int × (List value_Value))) := (LQ.m [(3, none, 5)] [0, 3, 4] (.c 0 (.r 5) (.c 3 (.own 0) (.c 4 (.i .i64) .n))) .n (.l 5 .n)).re (fun a => (a.1.1, (a.1.2.2.1, a.2.2.1))) (fun x => ((x.1, (), x.2.1, ()), (), x.2.2, ())) (fun _ => rfl)
def f_law06_Vals_0 (N : Nat) (c : (List value_Value)) (next : (Int × (List value_Value)) → Option (List value_Value)) (v : Int × (List value_Value)) : Option (List value_Value) := s_law06_Vals_1 N c (fun u0 u1 => next (u0, u1)) v.1 v.2
abbrev r_law06_Vals_0 (N : Nat) : ((List value_Value)) × (Int × (List value_Value)) → Option (List value_Value) := fun a => loopV (f_law06_Vals_0 N a.1) N a.2
def C_law07_Own : Con tb := .p 13 [true] (.c (.el tb_ok 6) .n) (fun N a => s_law07_Own N a.1) (R := event_Event) (.p (.el tb_ok 6)) (fun _ => rfl)
def C_law32_GateOnce : Con tb := .s 4 [true, true, true] (.c (.r 1) (.c (.i .i64) (.c (.r 8) .n))) (fun N a => s_law32_GateOnce N a.1 a.2.1 a.2.2.1) (R := Bool) (.p .b) (fun _ => ⟨rfl, (by kernel_rfl)⟩)
def q_law32_GateOnce_0 : LQ tb (((List law32_Op)) × (Int × (List schema_Type) × (List gate_Source) × (List event_ID))) := (LQ.m [(9, none, 7)] [2, 7, 9, 10] (.c 2 (.r 8) (.c 7 (.ptr 0 0) (.c 9 (.own 0) (.c 10 (.i .i64) .n)))) (.c (.c (.r 1) (.c (.r 3) .n)) .n) (.l 7 .n)).re (fun a => (a.1.1, (a.1.2.2.2.1, a.2.1.1.1, a.2.1.1.2.1, a.2.2.1))) (fun x => ((x.1, (), (), x.2.1, ()), ((x.2.2.1, x.2.2.2.1, ()), ()), x.2.2.2.2, ())) (fun _ => rfl)
def q_law32_GateOnce_2 : LQ tb (((List law32_Op) × Int × (List schema_Type) × (List gate_Source) × Int × Int × Int × (List UInt8) × (List value_Value) × (List schema_Type) × (List gate_Source) × (List event_ID)) × (Int)) := (LQ.m [] [2, 7, 9, 10, 11, 12, 14] (.c 2 (.r 8) (.c 7 (.ptr 0 0) (.c 9 (.own 0) (.c 10 (.i .i64) (.c 11 (.ptr 1 0) (.c 12 (.ptr 2 0) (.c 14 (.i .i64) .n))))))) (.c (.c (.r 1) (.c (.r 3) .n)) (.c (.c (.i .i64) (.c (.i .i64) (.c (.i .i64) (.c .s (.c (.r 5) .n))))) (.c (.c (.r 1) (.c (.r 3) .n)) .n))) (.l 7 .n)).re (fun a => ((a.1.1, a.1.2.2.2.1, a.2.1.1.1, a.2.1.1.2.1, a.2.1.2.1.1, a.2.1.2.1.2.1, a.2.1.2.1.2.2.1, a.2.1.2.1.2.2.2.1, a.2.1.2.1.2.2.2.2.1, a.2.1.2.2.1.1, a.2.1.2.2.1.2.1, a.2.2.1), a.1.2.2.2.2.2.2.1)) (fun x => ((x.1.1, (), (), x.1.2.1, (), (), x.2, ()), ((x.1.2.2.1, x.1.2.2.2.1, ()), (x.1.2.2.2.2.1, x.1.2.2.2.2.2.1, x.1.2.2.2.2.2.2.1, x.1.2.2.2.2.2.2.2.1, x.1.2.2.2.2.2.2.2.2.1, ()), (x.1.2.2.2.2.2.2.2.2.2.1, x.1.2.2.2.2.2.2.2.2.2.2.1, ()), ()), x.1.2.2.2.2.2.2.2.2.2.2.2, ())) (fun _ => rfl)
def f_law32_GateOnce_2 (N : Nat) (next0 : ((List law32_Op)) × (Int × (List schema_Type) × (List gate_Source) × (List event_ID)) → Option Bool) (c : (List law32_Op) × Int × (List schema_Type) × (List gate_Source) × Int × Int × Int × (List UInt8) × (List value_Value) × (List schema_Type) × (List gate_Source) × (List event_ID)) (next : Int → Option Bool) (v : Int) : Option Bool := s_law32_GateOnce_2 N c.2.1 c.2.2.2.2.1 c.2.2.2.2.2.1 c.2.2.2.2.2.2.1 c.2.2.2.2.2.2.2.1 c.2.2.2.2.2.2.2.2.1 c.2.2.2.2.2.2.2.2.2.1 c.2.2.2.2.2.2.2.2.2.2.1 c.2.2.2.2.2.2.2.2.2.2.2 (fun u0 u1 u2 u3 => next0 (c.1, (u0, u1, u2, u3))) (fun u0 => next u0) v
abbrev r_law32_GateOnce_2 (N : Nat) (next0 : ((List law32_Op)) × (Int × (List schema_Type) × (List gate_Source) × (List event_ID)) → Option Bool) : ((List law32_Op) × Int × (List schema_Type) × (List gate_Source) × Int × Int × Int × (List UInt8) × (List value_Value) × (List schema_Type) × (List gate_Source) × (List event_ID)) × (Int) → Option Bool := fun a => loopV (f_law32_GateOnce_2 N next0 a.1) N a.2
def f_law32_GateOnce_0 (N : Nat) (c : (List law32_Op)) (next : (Int × (List schema_Type) × (List gate_Source) × (List event_ID)) → Option Bool) (v : Int × (List schema_Type) × (List gate_Source) × (List event_ID)) : Option Bool := s_law32_GateOnce_1 N c (fun u0 u1 u2 u3 => next (u0, u1, u2, u3)) v.1 v.2.1 v.2.2.1 v.2.2.2
abbrev r_law32_GateOnce_0 (N : Nat) : ((List law32_Op)) × (Int × (List schema_Type) × (List gate_Source) × (List event_ID)) → Option Bool := fun a => loopV (f_law32_GateOnce_0 N a.1) N a.2
end
end Go.Proofs.YtfblfapkpieckaaDoor.W
namespace Go.Proofs.YtfblfapkpieckaaDoor.W
open Go
open Go.Proofs.Tryd
set_option maxRecDepth 1000000
set_option linter.unusedSimpArgs false
set_option linter.unusedVariables false
noncomputable section
def F_law06_Over : Fn C_law06_Over := ⟨f5, [], ⟨[], [], sbf⟩, [], [true], none, 0, 0⟩
theorem o_law06_Over : F_law06_Over.Ok prog := ⟨Is.of (by kernel_rfl) (by kernel_rfl), by kernel_rfl, hint_sb sb_ok, trivial, trivial, fun _ => by kernel_rfl⟩
theorem c_law06_Over (N : Nat) : C_law06_Over.Ok prog N := o_law06_Over.give tb_ok hm N N trivial fun a r s h => by
  have l0 := s.loop 0 q_law06_Over_0 (f_law06_Over_0 N) N fun next0 h0 => by
    have l2 := s.loop 2 q_law06_Over_2 (f_law06_Over_2 N next0) N fun next2 h2 => by
      exact fun c v => s.seg 2 q_law06_Over_2 [(0, .of q_law06_Over_0 next0), (2, .of q_law06_Over_2 next2)] ⟨h0, h2, trivial⟩ (by kernel_rfl) (by kernel_rfl)
    exact fun c v => s.seg 0 q_law06_Over_0 [(0, .of q_law06_Over_0 next0), (2, .of q_law06_Over_2 (r_law06_Over_2 N next0))] ⟨h0, l2, trivial⟩ (by kernel_rfl) (by kernel_rfl)
  exact s.main [(0, .of q_law06_Over_0 (r_law06_Over_0 N))] ⟨l0, trivial⟩ (.trans (by kernel_rfl) h)
def F_stringslite_IndexByte : Fn C_stringslite_IndexByte := ⟨f79, [(88, .ib)], ⟨[], [], sbf⟩, [], [true], none, 0, 0⟩
theorem o_stringslite_IndexByte : F_stringslite_IndexByte.Ok prog := ⟨Is.of (by kernel_rfl) (by kernel_rfl), by kernel_rfl, hint_sb sb_ok, trivial, ⟨ExtIs.mk' f88 (by kernel_rfl) (by kernel_rfl) (by kernel_rfl) (by kernel_rfl) (by kernel_rfl), trivial⟩, fun _ => by kernel_rfl⟩
theorem c_stringslite_IndexByte (N : Nat) : C_stringslite_IndexByte.Ok prog N := o_stringslite_IndexByte.give tb_ok hm N N trivial fun a r s h => by
  exact s.main [] trivial (.trans (by kernel_rfl) h)
def F_strings_Count_v724 : Fn C_strings_Count_v724 := ⟨f70, [(85, .cs)], ⟨[], [], sbf⟩, [], [true], none, 0, 0⟩
theorem o_strings_Count_v724 : F_strings_Count_v724.Ok prog := ⟨Is.of (by kernel_rfl) (by kernel_rfl), by kernel_rfl, hint_sb sb_ok, trivial, ⟨ExtIs.mk' f85 (by kernel_rfl) (by kernel_rfl) (by kernel_rfl) (by kernel_rfl) (by kernel_rfl), trivial⟩, fun _ => by kernel_rfl⟩
theorem c_strings_Count_v724 (N : Nat) : C_strings_Count_v724.Ok prog N := o_strings_Count_v724.give tb_ok hm N N trivial fun a r s h => by
  exact s.main [] trivial (.trans (by kernel_rfl) h)
def F_value_Word : Fn C_value_Word := ⟨f60, [], ⟨[], [], sbf⟩, [], [true], none, 0, 0⟩
theorem o_value_Word : F_value_Word.Ok prog := ⟨Is.of (by kernel_rfl) (by kernel_rfl), by kernel_rfl, hint_sb sb_ok, trivial, trivial, fun _ => by kernel_rfl⟩
theorem c_value_Word (N : Nat) : C_value_Word.Ok prog N := o_value_Word.give tb_ok hm N N trivial fun a r s h => by
  exact s.main [] trivial (.trans (by kernel_rfl) h)
def F_schema_letter : Fn C_schema_letter := ⟨f72, [], ⟨[], [], sbf⟩, [], [true], none, 0, 0⟩
theorem o_schema_letter : F_schema_letter.Ok prog := ⟨Is.of (by kernel_rfl) (by kernel_rfl), by kernel_rfl, hint_sb sb_ok, trivial, trivial, fun _ => by kernel_rfl⟩
theorem c_schema_letter (N : Nat) : C_schema_letter.Ok prog N := o_schema_letter.give tb_ok hm N N trivial fun a r s h => by
  exact s.main [] trivial (.trans (by kernel_rfl) h)
def F_schema_Reserved : Fn C_schema_Reserved := ⟨f73, [], ⟨[], [], sbf⟩, [], [true], none, 0, 0⟩
theorem o_schema_Reserved : F_schema_Reserved.Ok prog := ⟨Is.of (by kernel_rfl) (by kernel_rfl), by kernel_rfl, hint_sb sb_ok, trivial, trivial, fun _ => by kernel_rfl⟩
theorem c_schema_Reserved (N : Nat) : C_schema_Reserved.Ok prog N := o_schema_Reserved.give tb_ok hm N N trivial fun a r s h => by
  exact s.main [] trivial (.trans (by kernel_rfl) h)
def F_schema_Type_Field : Fn C_schema_Type_Field := ⟨f62, [], ⟨[], [], sbf⟩, [], [true, true], none, 0, 0⟩
theorem o_schema_Type_Field : F_schema_Type_Field.Ok prog := ⟨Is.of (by kernel_rfl) (by kernel_rfl), by kernel_rfl, hint_sb sb_ok, trivial, trivial, fun _ => by kernel_rfl⟩
theorem c_schema_Type_Field (N : Nat) : C_schema_Type_Field.Ok prog N := o_schema_Type_Field.give tb_ok hm N N trivial fun a r s h => by
  have l0 := s.loop 0 q_schema_Type_Field_0 (f_schema_Type_Field_0 N) N fun next0 h0 => by
    exact fun c v => s.seg 0 q_schema_Type_Field_0 [(0, .of q_schema_Type_Field_0 next0)] ⟨h0, trivial⟩ (by kernel_rfl) (by kernel_rfl)
  exact s.main [(0, .of q_schema_Type_Field_0 (r_schema_Type_Field_0 N))] ⟨l0, trivial⟩ (.trans (by kernel_rfl) h)
theorem c_slices_Clone_schema_Field (N : Nat) : C_slices_Clone_schema_Field.Ok prog N := clone_ok (te := 77) (tb := 4) (e := 82) (CloneIs.of (fn := f63) (by kernel_rfl) (by kernel_rfl) (by kernel_rfl) (by kernel_rfl) (by kernel_rfl) (by kernel_rfl) (by decide)) hm N
theorem c_slices_Clone_schema_Type_D (N : Nat) : C_slices_Clone_schema_Type_D.Ok prog N := cloneD_ok (te := 26) (tb := 4) (e := 79) (CloneIs.of (fn := f28) (by kernel_rfl) (by kernel_rfl) (by kernel_rfl) (by kernel_rfl) (by kernel_rfl) (by kernel_rfl) (by decide)) hm N
def F_gate_Gate_open : Fn C_gate_Gate_open := ⟨f35, [], ⟨[], [], sbf⟩, [], [true, true], none, 0, 0⟩
theorem o_gate_Gate_open : F_gate_Gate_open.Ok prog := ⟨Is.of (by kernel_rfl) (by kernel_rfl), by kernel_rfl, hint_sb sb_ok, trivial, trivial, fun _ => by kernel_rfl⟩
theorem c_gate_Gate_open (N : Nat) : C_gate_Gate_open.Ok prog N := o_gate_Gate_open.give tb_ok hm N N trivial fun a r s h => by
  exact s.main [] trivial (.trans (by kernel_rfl) h)
theorem c_slices_Clone_gate_Source (N : Nat) : C_slices_Clone_gate_Source.Ok prog N := clone_ok (te := 27) (tb := 4) (e := 81) (CloneIs.of (fn := f54) (by kernel_rfl) (by kernel_rfl) (by kernel_rfl) (by kernel_rfl) (by kernel_rfl) (by kernel_rfl) (by decide)) hm N
def F_gate_Gate_Advance_L1_v469 : Fn C_gate_Gate_Advance_L1_v469 := ⟨f41, [], ⟨[], [], sbf⟩, [], [], none, 1, 1⟩
theorem o_gate_Gate_Advance_L1_v469 : F_gate_Gate_Advance_L1_v469.Ok prog := ⟨Is.of (by kernel_rfl) (by kernel_rfl), by kernel_rfl, hint_sb sb_ok, trivial, trivial, fun _ => by kernel_rfl⟩
theorem c_gate_Gate_Advance_L1_v469 (N : Nat) : C_gate_Gate_Advance_L1_v469.Ok prog N := o_gate_Gate_Advance_L1_v469.give tb_ok hm N N trivial fun a r s h => by
  exact s.main [] trivial (.trans (by kernel_rfl) h)
def F_event_Event_ID : Fn C_event_Event_ID := ⟨f25, [], ⟨[], [], sbf⟩, [], [true], none, 0, 0⟩
theorem o_event_Event_ID : F_event_Event_ID.Ok prog := ⟨Is.of (by kernel_rfl) (by kernel_rfl), by kernel_rfl, hint_sb sb_ok, trivial, trivial, fun _ => by kernel_rfl⟩
theorem c_event_Event_ID (N : Nat) : C_event_Event_ID.Ok prog N := o_event_Event_ID.give tb_ok hm N N trivial fun a r s h => by
  exact s.main [] trivial (.trans (by kernel_rfl) h)
def F_event_ID_may : Fn C_event_ID_may := ⟨f50, [], ⟨[], [], sbf⟩, [], [true], none, 0, 0⟩
theorem o_event_ID_may : F_event_ID_may.Ok prog := ⟨Is.of (by kernel_rfl) (by kernel_rfl), by kernel_rfl, hint_sb sb_ok, trivial, trivial, fun _ => by kernel_rfl⟩
theorem c_event_ID_may (N : Nat) : C_event_ID_may.Ok prog N := o_event_ID_may.give tb_ok hm N N trivial fun a r s h => by
  exact s.main [] trivial (.trans (by kernel_rfl) h)
def F_value_core : Fn C_value_core := ⟨f76, [], ⟨[], [], sbf⟩, [], [false], none, 0, 0⟩
theorem o_value_core : F_value_core.Ok prog := ⟨Is.of (by kernel_rfl) (by kernel_rfl), by kernel_rfl, hint_sb sb_ok, trivial, trivial, fun _ => by kernel_rfl⟩
theorem c_value_core (N : Nat) : C_value_core.Ok prog N := o_value_core.give tb_ok hm N N trivial fun a r s h => by
  exact s.main [] trivial (.trans (by kernel_rfl) h)
def F_value_number_whole : Fn C_value_number_whole := ⟨f110, [], ⟨[], [], sbf⟩, [], [true], none, 0, 0⟩
theorem o_value_number_whole : F_value_number_whole.Ok prog := ⟨Is.of (by kernel_rfl) (by kernel_rfl), by kernel_rfl, hint_sb sb_ok, trivial, trivial, fun _ => by kernel_rfl⟩
theorem c_value_number_whole (N : Nat) : C_value_number_whole.Ok prog N := o_value_number_whole.give tb_ok hm N N trivial fun a r s h => by
  exact s.main [] trivial (.trans (by kernel_rfl) h)
def F_value_flag_whole : Fn C_value_flag_whole := ⟨f111, [], ⟨[], [], sbf⟩, [], [true], none, 0, 0⟩
theorem o_value_flag_whole : F_value_flag_whole.Ok prog := ⟨Is.of (by kernel_rfl) (by kernel_rfl), by kernel_rfl, hint_sb sb_ok, trivial, trivial, fun _ => by kernel_rfl⟩
theorem c_value_flag_whole (N : Nat) : C_value_flag_whole.Ok prog N := o_value_flag_whole.give tb_ok hm N N trivial fun a r s h => by
  exact s.main [] trivial (.trans (by kernel_rfl) h)
def F_real_of : Fn C_real_of := ⟨f86, [(91, .fb)], ⟨[], [], sbf⟩, [], [true], none, 0, 0⟩
theorem o_real_of : F_real_of.Ok prog := ⟨Is.of (by kernel_rfl) (by kernel_rfl), by kernel_rfl, hint_sb sb_ok, trivial, ⟨ExtIs.mk' f91 (by kernel_rfl) (by kernel_rfl) (by kernel_rfl) (by kernel_rfl) (by kernel_rfl), trivial⟩, fun _ => by kernel_rfl⟩
theorem c_real_of (N : Nat) : C_real_of.Ok prog N := o_real_of.give tb_ok hm N N trivial fun a r s h => by
  exact s.main [] trivial (.trans (by kernel_rfl) h)
def F_value_double_whole : Fn C_value_double_whole := ⟨f112, [], ⟨[], [], sbf⟩, [], [true], none, 0, 0⟩
theorem o_value_double_whole : F_value_double_whole.Ok prog := ⟨Is.of (by kernel_rfl) (by kernel_rfl), by kernel_rfl, hint_sb sb_ok, trivial, trivial, fun _ => by kernel_rfl⟩
theorem c_value_double_whole (N : Nat) : C_value_double_whole.Ok prog N := o_value_double_whole.give tb_ok hm N N trivial fun a r s h => by
  exact s.main [] trivial (.trans (by kernel_rfl) h)
def F_value_words_whole : Fn C_value_words_whole := ⟨f113, [], ⟨[], [], sbf⟩, [], [true], none, 0, 0⟩
theorem o_value_words_whole : F_value_words_whole.Ok prog := ⟨Is.of (by kernel_rfl) (by kernel_rfl), by kernel_rfl, hint_sb sb_ok, trivial, trivial, fun _ => by kernel_rfl⟩
theorem c_value_words_whole (N : Nat) : C_value_words_whole.Ok prog N := o_value_words_whole.give tb_ok hm N N trivial fun a r s h => by
  exact s.main [] trivial (.trans (by kernel_rfl) h)
def F_gate_Gate_Accept_L1_v149 : Fn C_gate_Gate_Accept_L1_v149 := ⟨f39, [], ⟨[], [], sbf⟩, [], [], none, 1, 1⟩
theorem o_gate_Gate_Accept_L1_v149 : F_gate_Gate_Accept_L1_v149.Ok prog := ⟨Is.of (by kernel_rfl) (by kernel_rfl), by kernel_rfl, hint_sb sb_ok, trivial, trivial, fun _ => by kernel_rfl⟩
theorem c_gate_Gate_Accept_L1_v149 (N : Nat) : C_gate_Gate_Accept_L1_v149.Ok prog N := o_gate_Gate_Accept_L1_v149.give tb_ok hm N N trivial fun a r s h => by
  exact s.main [] trivial (.trans (by kernel_rfl) h)
def F_gate_Gate_Close_L1_v462 : Fn C_gate_Gate_Close_L1_v462 := ⟨f42, [], ⟨[], [], sbf⟩, [], [], none, 0, 1⟩
theorem o_gate_Gate_Close_L1_v462 : F_gate_Gate_Close_L1_v462.Ok prog := ⟨Is.of (by kernel_rfl) (by kernel_rfl), by kernel_rfl, hint_sb sb_ok, trivial, trivial, fun _ => by kernel_rfl⟩
theorem c_gate_Gate_Close_L1_v462 (N : Nat) : C_gate_Gate_Close_L1_v462.Ok prog N := o_gate_Gate_Close_L1_v462.give tb_ok hm N N trivial fun a r s h => by
  exact s.main [] trivial (.trans (by kernel_rfl) h)
def F_gate_Gate_Least : Fn C_gate_Gate_Least := ⟨f22, [], ⟨[], [], sbf⟩, [], [true], none, 0, 0⟩
theorem o_gate_Gate_Least : F_gate_Gate_Least.Ok prog := ⟨Is.of (by kernel_rfl) (by kernel_rfl), by kernel_rfl, hint_sb sb_ok, trivial, trivial, fun _ => by kernel_rfl⟩
theorem c_gate_Gate_Least (N : Nat) : C_gate_Gate_Least.Ok prog N := o_gate_Gate_Least.give tb_ok hm N N trivial fun a r s h => by
  have l0 := s.loop 0 q_gate_Gate_Least_0 (f_gate_Gate_Least_0 N) N fun next0 h0 => by
    exact fun c v => s.seg 0 q_gate_Gate_Least_0 [(0, .of q_gate_Gate_Least_0 next0)] ⟨h0, trivial⟩ (by kernel_rfl) (by kernel_rfl)
  exact s.main [(0, .of q_gate_Gate_Least_0 (r_gate_Gate_Least_0 N))] ⟨l0, trivial⟩ (.trans (by kernel_rfl) h)
end
end Go.Proofs.YtfblfapkpieckaaDoor.W
namespace Go.Proofs.YtfblfapkpieckaaDoor.W
open Go
open Go.Proofs.Tryd
set_option maxRecDepth 1000000
set_option linter.unusedSimpArgs false
set_option linter.unusedVariables false
noncomputable section
def F_slices_Equal_schema_Field : Fn C_slices_Equal_schema_Field := ⟨f57, [], ⟨[], [], sbf⟩, [], [true], none, 0, 0⟩
theorem o_slices_Equal_schema_Field : F_slices_Equal_schema_Field.Ok prog := ⟨Is.of (by kernel_rfl) (by kernel_rfl), by kernel_rfl, hint_sb sb_ok, trivial, trivial, fun _ => by kernel_rfl⟩
theorem c_slices_Equal_schema_Field (N : Nat) : C_slices_Equal_schema_Field.Ok prog N := o_slices_Equal_schema_Field.give tb_ok hm N N trivial fun a r s h => by
  have l0 := s.loop 0 q_slices_Equal_schema_Field_0 (f_slices_Equal_schema_Field_0 N) N fun next0 h0 => by
    exact fun c v => s.seg 0 q_slices_Equal_schema_Field_0 [(0, .of q_slices_Equal_schema_Field_0 next0)] ⟨h0, trivial⟩ (by kernel_rfl) (by kernel_rfl)
  exact s.main [(0, .of q_slices_Equal_schema_Field_0 (r_slices_Equal_schema_Field_0 N))] ⟨l0, trivial⟩ (.trans (by kernel_rfl) h)
def F_law06_Own : Fn C_law06_Own := ⟨f8, [], ⟨[(39, 0), (44, 1)], [], sbf⟩, [], [true], none, 0, 0⟩
theorem o_law06_Own : F_law06_Own.Ok prog := ⟨Is.of (by kernel_rfl) (by kernel_rfl), by kernel_rfl, hint_sb sb_ok, trivial, trivial, fun _ => by kernel_rfl⟩
theorem c_law06_Own (N : Nat) : C_law06_Own.Ok prog N := o_law06_Own.give tb_ok hm N N trivial fun a r s h => by
  have l0 := s.loop 0 q_law06_Own_0 (f_law06_Own_0 N) N fun next0 h0 => by
    have l2 := s.loop 2 q_law06_Own_2 (f_law06_Own_2 N next0) N fun next2 h2 => by
      exact fun c v => s.seg 2 q_law06_Own_2 [(0, .of q_law06_Own_0 next0), (2, .of q_law06_Own_2 next2)] ⟨h0, h2, trivial⟩ (by kernel_rfl) (by kernel_rfl)
    exact fun c v => s.seg 0 q_law06_Own_0 [(0, .of q_law06_Own_0 next0), (2, .of q_law06_Own_2 (r_law06_Own_2 N next0))] ⟨h0, l2, trivial⟩ (by kernel_rfl) (by kernel_rfl)
  exact s.main [(0, .of q_law06_Own_0 (r_law06_Own_0 N))] ⟨l0, trivial⟩ (.trans (by kernel_rfl) h)
def F_law04_Small : Fn C_law04_Small := ⟨f32, [], ⟨[], [], sbf⟩, [], [true], none, 0, 0⟩
theorem o_law04_Small : F_law04_Small.Ok prog := ⟨Is.of (by kernel_rfl) (by kernel_rfl), by kernel_rfl, hint_sb sb_ok, trivial, trivial, fun _ => by kernel_rfl⟩
theorem c_law04_Small (N : Nat) : C_law04_Small.Ok prog N := o_law04_Small.give tb_ok hm N N trivial fun a r s h => by
  exact s.main [] trivial (.trans (by kernel_rfl) h)
def F_law06_Vals : Fn C_law06_Vals := ⟨f33, [], ⟨[(16, 5)], [], sbf⟩, [], [true], none, 0, 0⟩
theorem o_law06_Vals : F_law06_Vals.Ok prog := ⟨Is.of (by kernel_rfl) (by kernel_rfl), by kernel_rfl, hint_sb sb_ok, trivial, trivial, fun _ => by kernel_rfl⟩
theorem c_law06_Vals (N : Nat) : C_law06_Vals.Ok prog N := o_law06_Vals.give tb_ok hm N N trivial fun a r s h => by
  have l0 := s.loop 0 q_law06_Vals_0 (f_law06_Vals_0 N) N fun next0 h0 => by
    exact fun c v => s.seg 0 q_law06_Vals_0 [(0, .of q_law06_Vals_0 next0)] ⟨h0, trivial⟩ (by kernel_rfl) (by kernel_rfl)
  exact s.main [(0, .of q_law06_Vals_0 (r_law06_Vals_0 N))] ⟨l0, trivial⟩ (.trans (by kernel_rfl) h)
def F_stringslite_Index_v860 : Fn C_stringslite_Index_v860 := ⟨f68, [], ⟨[], [], sbf⟩, [C_stringslite_IndexByte], [true], none, 0, 0⟩
theorem o_stringslite_Index_v860 : F_stringslite_Index_v860.Ok prog := ⟨Is.of (by kernel_rfl) (by kernel_rfl), by kernel_rfl, hint_sb sb_ok, trivial, trivial, fun _ => by kernel_rfl⟩
theorem c_stringslite_Index_v860 (N : Nat) : C_stringslite_Index_v860.Ok prog N := o_stringslite_Index_v860.give tb_ok hm N N ⟨c_stringslite_IndexByte N, trivial⟩ fun a r s h => by
  exact s.main [] trivial (.trans (by kernel_rfl) h)
def F_stringslite_Index_v724 : Fn C_stringslite_Index_v724 := ⟨f68, [], ⟨[], [], sbf⟩, [C_stringslite_IndexByte], [true], none, 0, 0⟩
theorem o_stringslite_Index_v724 : F_stringslite_Index_v724.Ok prog := ⟨Is.of (by kernel_rfl) (by kernel_rfl), by kernel_rfl, hint_sb sb_ok, trivial, trivial, fun _ => by kernel_rfl⟩
theorem c_stringslite_Index_v724 (N : Nat) : C_stringslite_Index_v724.Ok prog N := o_stringslite_Index_v724.give tb_ok hm N N ⟨c_stringslite_IndexByte N, trivial⟩ fun a r s h => by
  exact s.main [] trivial (.trans (by kernel_rfl) h)
def F_stringslite_Index_v682 : Fn C_stringslite_Index_v682 := ⟨f68, [], ⟨[], [], sbf⟩, [C_stringslite_IndexByte], [true], none, 0, 0⟩
theorem o_stringslite_Index_v682 : F_stringslite_Index_v682.Ok prog := ⟨Is.of (by kernel_rfl) (by kernel_rfl), by kernel_rfl, hint_sb sb_ok, trivial, trivial, fun _ => by kernel_rfl⟩
theorem c_stringslite_Index_v682 (N : Nat) : C_stringslite_Index_v682.Ok prog N := o_stringslite_Index_v682.give tb_ok hm N N ⟨c_stringslite_IndexByte N, trivial⟩ fun a r s h => by
  exact s.main [] trivial (.trans (by kernel_rfl) h)
def F_schema_kindOf : Fn C_schema_kindOf := ⟨f46, [], ⟨[], [], sbf⟩, [C_value_Word], [true], none, 0, 0⟩
theorem o_schema_kindOf : F_schema_kindOf.Ok prog := ⟨Is.of (by kernel_rfl) (by kernel_rfl), by kernel_rfl, hint_sb sb_ok, trivial, trivial, fun _ => by kernel_rfl⟩
theorem c_schema_kindOf (N : Nat) : C_schema_kindOf.Ok prog N := o_schema_kindOf.give tb_ok hm N N ⟨c_value_Word N, trivial⟩ fun a r s h => by
  have l0 := s.loop 0 q_schema_kindOf_0 (f_schema_kindOf_0 N) N fun next0 h0 => by
    exact fun c v => s.seg 0 q_schema_kindOf_0 [(0, .of q_schema_kindOf_0 next0)] ⟨h0, trivial⟩ (by kernel_rfl) (by kernel_rfl)
  exact s.main [(0, .of q_schema_kindOf_0 (r_schema_kindOf_0 N))] ⟨l0, trivial⟩ (.trans (by kernel_rfl) h)
def F_schema_tail : Fn C_schema_tail := ⟨f74, [], ⟨[], [], sbf⟩, [C_schema_letter], [true], none, 0, 0⟩
theorem o_schema_tail : F_schema_tail.Ok prog := ⟨Is.of (by kernel_rfl) (by kernel_rfl), by kernel_rfl, hint_sb sb_ok, trivial, trivial, fun _ => by kernel_rfl⟩
theorem c_schema_tail (N : Nat) : C_schema_tail.Ok prog N := o_schema_tail.give tb_ok hm N N ⟨c_schema_letter N, trivial⟩ fun a r s h => by
  exact s.main [] trivial (.trans (by kernel_rfl) h)
def F_schema_Find : Fn C_schema_Find := ⟨f48, [], ⟨[], [], sbf⟩, [C_slices_Clone_schema_Field], [true, true], none, 0, 0⟩
theorem o_schema_Find : F_schema_Find.Ok prog := ⟨Is.of (by kernel_rfl) (by kernel_rfl), by kernel_rfl, hint_sb sb_ok, trivial, trivial, fun _ => by kernel_rfl⟩
theorem c_schema_Find (N : Nat) : C_schema_Find.Ok prog N := o_schema_Find.give tb_ok hm N N ⟨c_slices_Clone_schema_Field N, trivial⟩ fun a r s h => by
  have l0 := s.loop 0 q_schema_Find_0 (f_schema_Find_0 N) N fun next0 h0 => by
    exact fun c v => s.seg 0 q_schema_Find_0 [(0, .of q_schema_Find_0 next0)] ⟨h0, trivial⟩ (by kernel_rfl) (by kernel_rfl)
  exact s.main [(0, .of q_schema_Find_0 (r_schema_Find_0 N))] ⟨l0, trivial⟩ (.trans (by kernel_rfl) h)
def F_gate_Gate_turn_v637 : Fn C_gate_Gate_turn_v637 := ⟨f38, [], ⟨[], [], sbf⟩, [C_slices_Clone_gate_Source, C_gate_Gate_Advance_L1_v469], [true], none, 1, 0⟩
theorem o_gate_Gate_turn_v637 : F_gate_Gate_turn_v637.Ok prog := ⟨Is.of (by kernel_rfl) (by kernel_rfl), by kernel_rfl, hint_sb sb_ok, trivial, trivial, fun _ => by kernel_rfl⟩
theorem c_gate_Gate_turn_v637 (N : Nat) : C_gate_Gate_turn_v637.Ok prog N := o_gate_Gate_turn_v637.give tb_ok hm N N ⟨c_slices_Clone_gate_Source N, c_gate_Gate_Advance_L1_v469 N, trivial⟩ fun a r s h => by
  exact s.main [] trivial (.trans (by kernel_rfl) h)
def F_real_Clean : Fn C_real_Clean := ⟨f77, [], ⟨[], [], sbf⟩, [C_real_of], [true], none, 0, 0⟩
theorem o_real_Clean : F_real_Clean.Ok prog := ⟨Is.of (by kernel_rfl) (by kernel_rfl), by kernel_rfl, hint_sb sb_ok, trivial, trivial, fun _ => by kernel_rfl⟩
theorem c_real_Clean (N : Nat) : C_real_Clean.Ok prog N := o_real_Clean.give tb_ok hm N N ⟨c_real_of N, trivial⟩ fun a r s h => by
  exact s.main [] trivial (.trans (by kernel_rfl) h)
def F_gate_Gate_turn_v778 : Fn C_gate_Gate_turn_v778 := ⟨f38, [], ⟨[], [], sbf⟩, [C_slices_Clone_gate_Source, C_gate_Gate_Accept_L1_v149], [true], none, 1, 0⟩
theorem o_gate_Gate_turn_v778 : F_gate_Gate_turn_v778.Ok prog := ⟨Is.of (by kernel_rfl) (by kernel_rfl), by kernel_rfl, hint_sb sb_ok, trivial, trivial, fun _ => by kernel_rfl⟩
theorem c_gate_Gate_turn_v778 (N : Nat) : C_gate_Gate_turn_v778.Ok prog N := o_gate_Gate_turn_v778.give tb_ok hm N N ⟨c_slices_Clone_gate_Source N, c_gate_Gate_Accept_L1_v149 N, trivial⟩ fun a r s h => by
  exact s.main [] trivial (.trans (by kernel_rfl) h)
def F_gate_Gate_turn_v071 : Fn C_gate_Gate_turn_v071 := ⟨f38, [], ⟨[], [], sbf⟩, [C_slices_Clone_gate_Source, C_gate_Gate_Close_L1_v462], [true], none, 0, 0⟩
theorem o_gate_Gate_turn_v071 : F_gate_Gate_turn_v071.Ok prog := ⟨Is.of (by kernel_rfl) (by kernel_rfl), by kernel_rfl, hint_sb sb_ok, trivial, trivial, fun _ => by kernel_rfl⟩
theorem c_gate_Gate_turn_v071 (N : Nat) : C_gate_Gate_turn_v071.Ok prog N := o_gate_Gate_turn_v071.give tb_ok hm N N ⟨c_slices_Clone_gate_Source N, c_gate_Gate_Close_L1_v462 N, trivial⟩ fun a r s h => by
  exact s.main [] trivial (.trans (by kernel_rfl) h)
def F_schema_Same_L1 : Fn C_schema_Same_L1 := ⟨f56, [], ⟨[], [], sbf⟩, [C_slices_Equal_schema_Field], [true], none, 0, 0⟩
theorem o_schema_Same_L1 : F_schema_Same_L1.Ok prog := ⟨Is.of (by kernel_rfl) (by kernel_rfl), by kernel_rfl, hint_sb sb_ok, trivial, trivial, fun _ => by kernel_rfl⟩
theorem c_schema_Same_L1 (N : Nat) : C_schema_Same_L1.Ok prog N := o_schema_Same_L1.give tb_ok hm N N ⟨c_slices_Equal_schema_Field N, trivial⟩ fun a r s h => by
  exact s.main [] trivial (.trans (by kernel_rfl) h)
def F_law07_Over : Fn C_law07_Over := ⟨f12, [], ⟨[], [], sbf⟩, [C_law04_Small], [true], none, 0, 0⟩
theorem o_law07_Over : F_law07_Over.Ok prog := ⟨Is.of (by kernel_rfl) (by kernel_rfl), by kernel_rfl, hint_sb sb_ok, trivial, trivial, fun _ => by kernel_rfl⟩
theorem c_law07_Over (N : Nat) : C_law07_Over.Ok prog N := o_law07_Over.give tb_ok hm N N ⟨c_law04_Small N, trivial⟩ fun a r s h => by
  have l0 := s.loop 0 q_law07_Over_0 (f_law07_Over_0 N) N fun next0 h0 => by
    have l2 := s.loop 2 q_law07_Over_2 (f_law07_Over_2 N next0) N fun next2 h2 => by
      exact fun c v => s.seg 2 q_law07_Over_2 [(0, .of q_law07_Over_0 next0), (2, .of q_law07_Over_2 next2)] ⟨h0, h2, trivial⟩ (by kernel_rfl) (by kernel_rfl)
    exact fun c v => s.seg 0 q_law07_Over_0 [(0, .of q_law07_Over_0 next0), (2, .of q_law07_Over_2 (r_law07_Over_2 N next0))] ⟨h0, l2, trivial⟩ (by kernel_rfl) (by kernel_rfl)
  exact s.main [(0, .of q_law07_Over_0 (r_law07_Over_0 N))] ⟨l0, trivial⟩ (.trans (by kernel_rfl) h)
def F_law07_Own : Fn C_law07_Own := ⟨f13, [], ⟨[], [], sbf⟩, [C_law06_Vals], [true], none, 0, 0⟩
theorem o_law07_Own : F_law07_Own.Ok prog := ⟨Is.of (by kernel_rfl) (by kernel_rfl), by kernel_rfl, hint_sb sb_ok, trivial, trivial, fun _ => by kernel_rfl⟩
theorem c_law07_Own (N : Nat) : C_law07_Own.Ok prog N := o_law07_Own.give tb_ok hm N N ⟨c_law06_Vals N, trivial⟩ fun a r s h => by
  exact s.main [] trivial (.trans (by kernel_rfl) h)
def F_stringslite_Cut_v860 : Fn C_stringslite_Cut_v860 := ⟨f58, [], ⟨[], [], sbf⟩, [C_stringslite_Index_v860], [true, true, true], none, 0, 0⟩
theorem o_stringslite_Cut_v860 : F_stringslite_Cut_v860.Ok prog := ⟨Is.of (by kernel_rfl) (by kernel_rfl), by kernel_rfl, hint_sb sb_ok, trivial, trivial, fun _ => by kernel_rfl⟩
theorem c_stringslite_Cut_v860 (N : Nat) : C_stringslite_Cut_v860.Ok prog N := o_stringslite_Cut_v860.give tb_ok hm N N ⟨c_stringslite_Index_v860 N, trivial⟩ fun a r s h => by
  exact s.main [] trivial (.trans (by kernel_rfl) h)
def F_strings_Index_v724 : Fn C_strings_Index_v724 := ⟨f71, [], ⟨[], [], sbf⟩, [C_stringslite_Index_v724], [true], none, 0, 0⟩
theorem o_strings_Index_v724 : F_strings_Index_v724.Ok prog := ⟨Is.of (by kernel_rfl) (by kernel_rfl), by kernel_rfl, hint_sb sb_ok, trivial, trivial, fun _ => by kernel_rfl⟩
theorem c_strings_Index_v724 (N : Nat) : C_strings_Index_v724.Ok prog N := o_strings_Index_v724.give tb_ok hm N N ⟨c_stringslite_Index_v724 N, trivial⟩ fun a r s h => by
  exact s.main [] trivial (.trans (by kernel_rfl) h)
end
end Go.Proofs.YtfblfapkpieckaaDoor.W
namespace Go.Proofs.YtfblfapkpieckaaDoor.W
open Go
open Go.Proofs.Tryd
set_option maxRecDepth 1000000
set_option linter.unusedSimpArgs false
set_option linter.unusedVariables false
noncomputable section
def F_stringslite_Cut_v682 : Fn C_stringslite_Cut_v682 := ⟨f58, [], ⟨[], [], sbf⟩, [C_stringslite_Index_v682], [true, true, true], none, 0, 0⟩
theorem o_stringslite_Cut_v682 : F_stringslite_Cut_v682.Ok prog := ⟨Is.of (by kernel_rfl) (by kernel_rfl), by kernel_rfl, hint_sb sb_ok, trivial, trivial, fun _ => by kernel_rfl⟩
theorem c_stringslite_Cut_v682 (N : Nat) : C_stringslite_Cut_v682.Ok prog N := o_stringslite_Cut_v682.give tb_ok hm N N ⟨c_stringslite_Index_v682 N, trivial⟩ fun a r s h => by
  exact s.main [] trivial (.trans (by kernel_rfl) h)
def F_schema_Name : Fn C_schema_Name := ⟨f61, [], ⟨[], [], sbf⟩, [C_schema_letter, C_schema_Reserved, C_schema_tail], [true], none, 0, 0⟩
theorem o_schema_Name : F_schema_Name.Ok prog := ⟨Is.of (by kernel_rfl) (by kernel_rfl), by kernel_rfl, hint_sb sb_ok, trivial, trivial, fun _ => by kernel_rfl⟩
theorem c_schema_Name (N : Nat) : C_schema_Name.Ok prog N := o_schema_Name.give tb_ok hm N N ⟨c_schema_letter N, c_schema_Reserved N, c_schema_tail N, trivial⟩ fun a r s h => by
  have l0 := s.loop 0 q_schema_Name_0 (f_schema_Name_0 N) N fun next0 h0 => by
    exact fun c v => s.seg 0 q_schema_Name_0 [(0, .of q_schema_Name_0 next0)] ⟨h0, trivial⟩ (by kernel_rfl) (by kernel_rfl)
  exact s.main [(0, .of q_schema_Name_0 (r_schema_Name_0 N))] ⟨l0, trivial⟩ (.trans (by kernel_rfl) h)
def F_gate_Gate_Advance : Fn C_gate_Gate_Advance := ⟨f18, [], ⟨[], [], sbf⟩, [C_gate_Gate_open, C_gate_Gate_turn_v637], [true, true], none, 0, 0⟩
theorem o_gate_Gate_Advance : F_gate_Gate_Advance.Ok prog := ⟨Is.of (by kernel_rfl) (by kernel_rfl), by kernel_rfl, hint_sb sb_ok, trivial, trivial, fun _ => by kernel_rfl⟩
theorem c_gate_Gate_Advance (N : Nat) : C_gate_Gate_Advance.Ok prog N := o_gate_Gate_Advance.give tb_ok hm N N ⟨c_gate_Gate_open N, c_gate_Gate_turn_v637 N, trivial⟩ fun a r s h => by
  exact s.main [] trivial (.trans (by kernel_rfl) h)
def F_value_Check : Fn C_value_Check := ⟨f66, [], ⟨[], [], sbf⟩, [C_value_core, C_value_number_whole, C_value_flag_whole, C_real_Clean, C_value_double_whole, C_value_words_whole], [true], none, 0, 0⟩
theorem o_value_Check : F_value_Check.Ok prog := ⟨Is.of (by kernel_rfl) (by kernel_rfl), by kernel_rfl, hint_sb sb_ok, trivial, trivial, fun _ => by kernel_rfl⟩
theorem c_value_Check (N : Nat) : C_value_Check.Ok prog N := o_value_Check.give tb_ok hm N N ⟨c_value_core N, c_value_number_whole N, c_value_flag_whole N, c_real_Clean N, c_value_double_whole N, c_value_words_whole N, trivial⟩ fun a r s h => by
  exact s.main [] trivial (.trans (by kernel_rfl) h)
def F_gate_Gate_Close : Fn C_gate_Gate_Close := ⟨f20, [], ⟨[], [], sbf⟩, [C_gate_Gate_open, C_gate_Gate_turn_v071], [true, true], none, 0, 0⟩
theorem o_gate_Gate_Close : F_gate_Gate_Close.Ok prog := ⟨Is.of (by kernel_rfl) (by kernel_rfl), by kernel_rfl, hint_sb sb_ok, trivial, trivial, fun _ => by kernel_rfl⟩
theorem c_gate_Gate_Close (N : Nat) : C_gate_Gate_Close.Ok prog N := o_gate_Gate_Close.give tb_ok hm N N ⟨c_gate_Gate_open N, c_gate_Gate_turn_v071 N, trivial⟩ fun a r s h => by
  exact s.main [] trivial (.trans (by kernel_rfl) h)
def F_slices_EqualFunc_schema_Type_v029 : Fn C_slices_EqualFunc_schema_Type_v029 := ⟨f55, [], ⟨[], [], sbf⟩, [C_schema_Same_L1], [true], none, 0, 0⟩
theorem o_slices_EqualFunc_schema_Type_v029 : F_slices_EqualFunc_schema_Type_v029.Ok prog := ⟨Is.of (by kernel_rfl) (by kernel_rfl), by kernel_rfl, hint_sb sb_ok, trivial, trivial, fun _ => by kernel_rfl⟩
theorem c_slices_EqualFunc_schema_Type_v029 (N : Nat) : C_slices_EqualFunc_schema_Type_v029.Ok prog N := o_slices_EqualFunc_schema_Type_v029.give tb_ok hm N N ⟨c_schema_Same_L1 N, trivial⟩ fun a r s h => by
  have l0 := s.loop 0 q_slices_EqualFunc_schema_Type_v029_0 (f_slices_EqualFunc_schema_Type_v029_0 N) N fun next0 h0 => by
    exact fun c v => s.seg 0 q_slices_EqualFunc_schema_Type_v029_0 [(0, .of q_slices_EqualFunc_schema_Type_v029_0 next0)] ⟨h0, trivial⟩ (by kernel_rfl) (by kernel_rfl)
  exact s.main [(0, .of q_slices_EqualFunc_schema_Type_v029_0 (r_slices_EqualFunc_schema_Type_v029_0 N))] ⟨l0, trivial⟩ (.trans (by kernel_rfl) h)
def F_strings_Cut_v860 : Fn C_strings_Cut_v860 := ⟨f44, [], ⟨[], [], sbf⟩, [C_stringslite_Cut_v860], [true, true, true], none, 0, 0⟩
theorem o_strings_Cut_v860 : F_strings_Cut_v860.Ok prog := ⟨Is.of (by kernel_rfl) (by kernel_rfl), by kernel_rfl, hint_sb sb_ok, trivial, trivial, fun _ => by kernel_rfl⟩
theorem c_strings_Cut_v860 (N : Nat) : C_strings_Cut_v860.Ok prog N := o_strings_Cut_v860.give tb_ok hm N N ⟨c_stringslite_Cut_v860 N, trivial⟩ fun a r s h => by
  exact s.main [] trivial (.trans (by kernel_rfl) h)
def F_strings_genSplit_v997 : Fn C_strings_genSplit_v997 := ⟨f59, [], ⟨[], [(103, ⟨2, ([] : List UInt8), 16⟩)], sbf⟩, [C_strings_Count_v724, C_strings_Index_v724], [true], none, 0, 0⟩
theorem o_strings_genSplit_v997 : F_strings_genSplit_v997.Ok prog := ⟨Is.of (by kernel_rfl) (by kernel_rfl), by kernel_rfl, hint_sb sb_ok, ⟨⟨[0], by kernel_rfl⟩, trivial⟩, trivial, fun _ => by kernel_rfl⟩
theorem c_strings_genSplit_v997 (N : Nat) : C_strings_genSplit_v997.Ok prog N := o_strings_genSplit_v997.give tb_ok hm N N ⟨c_strings_Count_v724 N, c_strings_Index_v724 N, trivial⟩ fun a r s h => by
  have l0 := s.loop 0 q_strings_genSplit_v997_0 (f_strings_genSplit_v997_0 N) N fun next0 h0 => by
    exact fun c v => s.seg 0 q_strings_genSplit_v997_0 [(0, .of q_strings_genSplit_v997_0 next0)] ⟨h0, trivial⟩ (by kernel_rfl) (by kernel_rfl)
  exact s.main [(0, .of q_strings_genSplit_v997_0 (r_strings_genSplit_v997_0 N))] ⟨l0, trivial⟩ (.trans (by kernel_rfl) h)
def F_strings_Cut_v682 : Fn C_strings_Cut_v682 := ⟨f44, [], ⟨[], [], sbf⟩, [C_stringslite_Cut_v682], [true, true, true], none, 0, 0⟩
theorem o_strings_Cut_v682 : F_strings_Cut_v682.Ok prog := ⟨Is.of (by kernel_rfl) (by kernel_rfl), by kernel_rfl, hint_sb sb_ok, trivial, trivial, fun _ => by kernel_rfl⟩
theorem c_strings_Cut_v682 (N : Nat) : C_strings_Cut_v682.Ok prog N := o_strings_Cut_v682.give tb_ok hm N N ⟨c_stringslite_Cut_v682 N, trivial⟩ fun a r s h => by
  exact s.main [] trivial (.trans (by kernel_rfl) h)
def F_schema_Type_check : Fn C_schema_Type_check := ⟨f47, [], ⟨[], [], sbf⟩, [C_schema_Name, C_schema_Type_Field, C_value_Word], [true], none, 0, 0⟩
theorem o_schema_Type_check : F_schema_Type_check.Ok prog := ⟨Is.of (by kernel_rfl) (by kernel_rfl), by kernel_rfl, hint_sb sb_ok, trivial, trivial, fun _ => by kernel_rfl⟩
theorem c_schema_Type_check (N : Nat) : C_schema_Type_check.Ok prog N := o_schema_Type_check.give tb_ok hm N N ⟨c_schema_Name N, c_schema_Type_Field N, c_value_Word N, trivial⟩ fun a r s h => by
  have l0 := s.loop 0 q_schema_Type_check_0 (f_schema_Type_check_0 N) N fun next0 h0 => by
    exact fun c v => s.seg 0 q_schema_Type_check_0 [(0, .of q_schema_Type_check_0 next0)] ⟨h0, trivial⟩ (by kernel_rfl) (by kernel_rfl)
  exact s.main [(0, .of q_schema_Type_check_0 (r_schema_Type_check_0 N))] ⟨l0, trivial⟩ (.trans (by kernel_rfl) h)
def F_schema_Fits : Fn C_schema_Fits := ⟨f51, [], ⟨[], [], sbf⟩, [C_value_Check], [true], none, 0, 0⟩
theorem o_schema_Fits : F_schema_Fits.Ok prog := ⟨Is.of (by kernel_rfl) (by kernel_rfl), by kernel_rfl, hint_sb sb_ok, trivial, trivial, fun _ => by kernel_rfl⟩
theorem c_schema_Fits (N : Nat) : C_schema_Fits.Ok prog N := o_schema_Fits.give tb_ok hm N N ⟨c_value_Check N, trivial⟩ fun a r s h => by
  have l0 := s.loop 0 q_schema_Fits_0 (f_schema_Fits_0 N) N fun next0 h0 => by
    exact fun c v => s.seg 0 q_schema_Fits_0 [(0, .of q_schema_Fits_0 next0)] ⟨h0, trivial⟩ (by kernel_rfl) (by kernel_rfl)
  exact s.main [(0, .of q_schema_Fits_0 (r_schema_Fits_0 N))] ⟨l0, trivial⟩ (.trans (by kernel_rfl) h)
def F_schema_Same : Fn C_schema_Same := ⟨f43, [], ⟨[], [], sbf⟩, [C_slices_EqualFunc_schema_Type_v029], [true], none, 0, 0⟩
theorem o_schema_Same : F_schema_Same.Ok prog := ⟨Is.of (by kernel_rfl) (by kernel_rfl), by kernel_rfl, hint_sb sb_ok, trivial, trivial, fun _ => by kernel_rfl⟩
theorem c_schema_Same (N : Nat) : C_schema_Same.Ok prog N := o_schema_Same.give tb_ok hm N N ⟨c_slices_EqualFunc_schema_Type_v029 N, trivial⟩ fun a r s h => by
  exact s.main [] trivial (.trans (by kernel_rfl) h)
def F_strings_Split_v724 : Fn C_strings_Split_v724 := ⟨f45, [], ⟨[], [], sbf⟩, [C_strings_genSplit_v997], [true], none, 0, 0⟩
theorem o_strings_Split_v724 : F_strings_Split_v724.Ok prog := ⟨Is.of (by kernel_rfl) (by kernel_rfl), by kernel_rfl, hint_sb sb_ok, trivial, trivial, fun _ => by kernel_rfl⟩
theorem c_strings_Split_v724 (N : Nat) : C_strings_Split_v724.Ok prog N := o_strings_Split_v724.give tb_ok hm N N ⟨c_strings_genSplit_v997 N, trivial⟩ fun a r s h => by
  exact s.main [] trivial (.trans (by kernel_rfl) h)
def F_schema_Check : Fn C_schema_Check := ⟨f27, [], ⟨[], [], sbf⟩, [C_schema_Type_check, C_schema_Find], [true], none, 0, 0⟩
theorem o_schema_Check : F_schema_Check.Ok prog := ⟨Is.of (by kernel_rfl) (by kernel_rfl), by kernel_rfl, hint_sb sb_ok, trivial, trivial, fun _ => by kernel_rfl⟩
theorem c_schema_Check (N : Nat) : C_schema_Check.Ok prog N := o_schema_Check.give tb_ok hm N N ⟨c_schema_Type_check N, c_schema_Find N, trivial⟩ fun a r s h => by
  have l0 := s.loop 0 q_schema_Check_0 (f_schema_Check_0 N) N fun next0 h0 => by
    exact fun c v => s.seg 0 q_schema_Check_0 [(0, .of q_schema_Check_0 next0)] ⟨h0, trivial⟩ (by kernel_rfl) (by kernel_rfl)
  exact s.main [(0, .of q_schema_Check_0 (r_schema_Check_0 N))] ⟨l0, trivial⟩ (.trans (by kernel_rfl) h)
def F_gate_Same : Fn C_gate_Same := ⟨f24, [], ⟨[], [], sbf⟩, [C_schema_Same], [true], none, 0, 0⟩
theorem o_gate_Same : F_gate_Same.Ok prog := ⟨Is.of (by kernel_rfl) (by kernel_rfl), by kernel_rfl, hint_sb sb_ok, trivial, trivial, fun _ => by kernel_rfl⟩
theorem c_gate_Same (N : Nat) : C_gate_Same.Ok prog N := o_gate_Same.give tb_ok hm N N ⟨c_schema_Same N, trivial⟩ fun a r s h => by
  have l0 := s.loop 0 q_gate_Same_0 (f_gate_Same_0 N) N fun next0 h0 => by
    exact fun c v => s.seg 0 q_gate_Same_0 [(0, .of q_gate_Same_0 next0)] ⟨h0, trivial⟩ (by kernel_rfl) (by kernel_rfl)
  exact s.main [(0, .of q_gate_Same_0 (r_gate_Same_0 N))] ⟨l0, trivial⟩ (.trans (by kernel_rfl) h)
def F_schema_Parse : Fn C_schema_Parse := ⟨f26, [], ⟨[(58, 0), (66, 1)], [], sbf⟩, [C_strings_Cut_v860, C_strings_Split_v724, C_strings_Cut_v682, C_schema_kindOf, C_schema_Check], [true, true], none, 0, 0⟩
theorem o_schema_Parse : F_schema_Parse.Ok prog := ⟨Is.of (by kernel_rfl) (by kernel_rfl), by kernel_rfl, hint_sb sb_ok, trivial, trivial, fun _ => by kernel_rfl⟩
theorem c_schema_Parse (N : Nat) : C_schema_Parse.Ok prog N := o_schema_Parse.give tb_ok hm N N ⟨c_strings_Cut_v860 N, c_strings_Split_v724 N, c_strings_Cut_v682 N, c_schema_kindOf N, c_schema_Check N, trivial⟩ fun a r s h => by
  have l0 := s.loop 0 q_schema_Parse_0 (f_schema_Parse_0 N) N fun next0 h0 => by
    have l2 := s.loop 2 q_schema_Parse_2 (f_schema_Parse_2 N next0) N fun next2 h2 => by
      exact fun c v => s.seg 2 q_schema_Parse_2 [(0, .of q_schema_Parse_0 next0), (2, .of q_schema_Parse_2 next2)] ⟨h0, h2, trivial⟩ (by kernel_rfl) (by kernel_rfl)
    exact fun c v => s.seg 0 q_schema_Parse_0 [(0, .of q_schema_Parse_0 next0), (2, .of q_schema_Parse_2 (r_schema_Parse_2 N next0))] ⟨h0, l2, trivial⟩ (by kernel_rfl) (by kernel_rfl)
  exact s.main [(0, .of q_schema_Parse_0 (r_schema_Parse_0 N))] ⟨l0, trivial⟩ (.trans (by kernel_rfl) h)
end
end Go.Proofs.YtfblfapkpieckaaDoor.W
namespace Go.Proofs.YtfblfapkpieckaaDoor.W
open Go
open Go.Proofs.Tryd
set_option maxRecDepth 1000000
set_option linter.unusedSimpArgs false
set_option linter.unusedVariables false
noncomputable section
def F_gate_New : Fn C_gate_New := ⟨f7, [], ⟨[], [(27, ⟨3, ((gate_Source.mk 0 0 false) : gate_Source), 24⟩)], sbf⟩, [C_schema_Check, C_slices_Clone_schema_Type_D], [true, true], none, 0, 0⟩
theorem o_gate_New : F_gate_New.Ok prog := ⟨Is.of (by kernel_rfl) (by kernel_rfl), by kernel_rfl, hint_sb sb_ok, ⟨⟨[0, 0, 0], by kernel_rfl⟩, trivial⟩, trivial, fun _ => by kernel_rfl⟩
theorem c_gate_New (N : Nat) : C_gate_New.Ok prog N := o_gate_New.give tb_ok hm N N ⟨c_schema_Check N, c_slices_Clone_schema_Type_D N, trivial⟩ fun a r s h => by
  have l0 := s.loop 0 q_gate_New_0 (f_gate_New_0 N) N fun next0 h0 => by
    exact fun c v => s.seg 0 q_gate_New_0 [(0, .of q_gate_New_0 next0)] ⟨h0, trivial⟩ (by kernel_rfl) (by kernel_rfl)
  exact s.main [(0, .of q_gate_New_0 (r_gate_New_0 N))] ⟨l0, trivial⟩ (.trans (by kernel_rfl) h)
def F_event_Check : Fn C_event_Check := ⟨f34, [], ⟨[], [], sbf⟩, [C_schema_Check, C_event_Event_ID, C_event_ID_may, C_schema_Find, C_schema_Fits], [true], none, 0, 0⟩
theorem o_event_Check : F_event_Check.Ok prog := ⟨Is.of (by kernel_rfl) (by kernel_rfl), by kernel_rfl, hint_sb sb_ok, trivial, trivial, fun _ => by kernel_rfl⟩
theorem c_event_Check (N : Nat) : C_event_Check.Ok prog N := o_event_Check.give tb_ok hm N N ⟨c_schema_Check N, c_event_Event_ID N, c_event_ID_may N, c_schema_Find N, c_schema_Fits N, trivial⟩ fun a r s h => by
  exact s.main [] trivial (.trans (by kernel_rfl) h)
def F_gate_Gate_Why : Fn C_gate_Gate_Why := ⟨f14, [], ⟨[], [], sbf⟩, [C_event_Check, C_gate_Gate_open], [true], none, 0, 0⟩
theorem o_gate_Gate_Why : F_gate_Gate_Why.Ok prog := ⟨Is.of (by kernel_rfl) (by kernel_rfl), by kernel_rfl, hint_sb sb_ok, trivial, trivial, fun _ => by kernel_rfl⟩
theorem c_gate_Gate_Why (N : Nat) : C_gate_Gate_Why.Ok prog N := o_gate_Gate_Why.give tb_ok hm N N ⟨c_event_Check N, c_gate_Gate_open N, trivial⟩ fun a r s h => by
  exact s.main [] trivial (.trans (by kernel_rfl) h)
def F_gate_Gate_Accept : Fn C_gate_Gate_Accept := ⟨f16, [], ⟨[], [], sbf⟩, [C_gate_Gate_Why, C_gate_Gate_turn_v778], [true, true], none, 0, 0⟩
theorem o_gate_Gate_Accept : F_gate_Gate_Accept.Ok prog := ⟨Is.of (by kernel_rfl) (by kernel_rfl), by kernel_rfl, hint_sb sb_ok, trivial, trivial, fun _ => by kernel_rfl⟩
theorem c_gate_Gate_Accept (N : Nat) : C_gate_Gate_Accept.Ok prog N := o_gate_Gate_Accept.give tb_ok hm N N ⟨c_gate_Gate_Why N, c_gate_Gate_turn_v778 N, trivial⟩ fun a r s h => by
  exact s.main [] trivial (.trans (by kernel_rfl) h)
def F_law32_awake : Fn C_law32_awake := ⟨f6, [], ⟨[], [], sbf⟩, [C_schema_Parse, C_gate_New, C_gate_Gate_Advance, C_gate_Gate_Accept, C_gate_Gate_Close, C_gate_Gate_Why, C_gate_Gate_Least, C_gate_Same], [true], none, 0, 0⟩
theorem o_law32_awake : F_law32_awake.Ok prog := ⟨Is.of (by kernel_rfl) (by kernel_rfl), by kernel_rfl, hint_sb sb_ok, trivial, trivial, fun _ => by kernel_rfl⟩
theorem c_law32_awake (N : Nat) : C_law32_awake.Ok prog N := o_law32_awake.give tb_ok hm N N ⟨c_schema_Parse N, c_gate_New N, c_gate_Gate_Advance N, c_gate_Gate_Accept N, c_gate_Gate_Close N, c_gate_Gate_Why N, c_gate_Gate_Least N, c_gate_Same N, trivial⟩ fun a r s h => by
  exact s.main [] trivial (.trans (by kernel_rfl) h)
def F_law32_GateOnce : Fn C_law32_GateOnce := ⟨f4, [], ⟨[(51, 6), (176, 7)], [], sbf⟩, [C_law06_Over, C_law32_awake, C_law06_Own, C_gate_New, C_law07_Over, C_law07_Own, C_gate_Gate_Accept, C_gate_Same, C_gate_Gate_Least, C_event_Event_ID, C_gate_Gate_Advance, C_gate_Gate_Close], [true], none, 0, 0⟩
theorem o_law32_GateOnce : F_law32_GateOnce.Ok prog := ⟨Is.of (by kernel_rfl) (by kernel_rfl), by kernel_rfl, hint_sb sb_ok, trivial, trivial, fun _ => by kernel_rfl⟩
theorem c_law32_GateOnce (N : Nat) : C_law32_GateOnce.Ok prog N := o_law32_GateOnce.give tb_ok hm N N ⟨c_law06_Over N, c_law32_awake N, c_law06_Own N, c_gate_New N, c_law07_Over N, c_law07_Own N, c_gate_Gate_Accept N, c_gate_Same N, c_gate_Gate_Least N, c_event_Event_ID N, c_gate_Gate_Advance N, c_gate_Gate_Close N, trivial⟩ fun a r s h => by
  have l0 := s.loop 0 q_law32_GateOnce_0 (f_law32_GateOnce_0 N) N fun next0 h0 => by
    have l2 := s.loop 2 q_law32_GateOnce_2 (f_law32_GateOnce_2 N next0) N fun next2 h2 => by
      exact fun c v => s.seg 2 q_law32_GateOnce_2 [(0, .of q_law32_GateOnce_0 next0), (2, .of q_law32_GateOnce_2 next2)] ⟨h0, h2, trivial⟩ (by kernel_rfl) (by kernel_rfl)
    exact fun c v => s.seg 0 q_law32_GateOnce_0 [(0, .of q_law32_GateOnce_0 next0), (2, .of q_law32_GateOnce_2 (r_law32_GateOnce_2 N next0))] ⟨h0, l2, trivial⟩ (by kernel_rfl) (by kernel_rfl)
  exact s.main [(0, .of q_law32_GateOnce_0 (r_law32_GateOnce_0 N))] ⟨l0, trivial⟩ (.trans (by kernel_rfl) h)
end
end Go.Proofs.YtfblfapkpieckaaDoor.W
