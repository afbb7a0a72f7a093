/- The code, and what each function of it is walked to. No premise beyond what each theorem says. -/
import Derived.Test.YtbanfalnbhcknaaGreatDoorYA4
import Derived.Test.YtbanfalnbhcknaaGreatDoorProg
set_option linter.all false
set_option linter.unusedSimpArgs false
set_option linter.unusedVariables false
namespace Go.Proofs.YtbanfalnbhcknaaGreatDoor.Y
open Go
section
open Go.Proofs.Tryz
set_option maxRecDepth 1000000
noncomputable section
structure value_Value where
  Kind : Int
  N : Int
  Bits : Int
  Text : List UInt8
structure pred_Node where
  Kind : Int
  Op : Int
  Var : List UInt8
  Name : List UInt8
  Val : value_Value
structure schema_Field where
  Name : List UInt8
  Kind : Int
structure schema_Type where
  Name : List UInt8
  Fields : List schema_Field
structure event_Event where
  Time : Int
  Source : Int
  Seq : Int
  Type_ : List UInt8
  Vals : List value_Value
structure bind_Pair where
  Var : List UInt8
  E : event_Event
structure ref20_Scene where
  Types : List schema_Type
  Bound : List bind_Pair
  E : event_Event
structure lex_Token where
  Kind : Int
  At : Int
  Text : List UInt8
  Val : value_Value
inductive judge_side where
  | lit_ (v : value_Value)
  | of_ (name : List UInt8) (field : List UInt8)
  | own_ (name : List UInt8)
  | sum_ (minus : Bool) (a : judge_side) (b : judge_side)
inductive judge_truth where
  | and_ (a : judge_truth) (b : judge_truth)
  | not_ (a : judge_truth)
  | or_ (a : judge_truth) (b : judge_truth)
  | test_ (op : Int) (a : judge_side) (b : judge_side)
structure judge_and where
  a : judge_truth
  b : judge_truth
structure judge_not where
  a : judge_truth
structure judge_test where
  op : Int
  a : judge_side
  b : judge_side
structure judge_lit where
  v : value_Value
structure judge_of where
  name : List UInt8
  field : List UInt8
structure judge_own where
  name : List UInt8
structure judge_sum where
  minus : Bool
  a : judge_side
  b : judge_side
def s_law04_Small (N : Nat) (v : value_Value) : Option Int :=
  gd (i64b ((List.length v.Text : Int) - 100)) (
  some (max 0 ((List.length v.Text : Int) - 100)))
def s_law11_Over_1 (N : Nat) (l : List pred_Node) (next0 : Int → Option Int) (i : Int) : Option Int :=
  bif (ltB i (List.length l : Int)) then
   (ix l i).bind fun e =>
   bif (ltB 40 (List.length e.Var : Int)) then
    some 1
   else
    (ix l i).bind fun e2 =>
    bif (ltB 40 (List.length e2.Name : Int)) then
     some 1
    else
     (ix l i).bind fun e3 =>
     (s_law04_Small N e3.Val).bind fun smal =>
     bif (ltB 0 smal) then
      some 1
     else
      gd (i64b (i + 1)) (
      next0 (i + 1))
  else
   some 0
def s_law11_Over (N : Nat) (l : List pred_Node) : Option Int :=
  bif (ltB 40 (List.length l : Int)) then
   some 1
  else
   lp1 (s_law11_Over_1 N l) N 0
def s_predtext_parser_next_v424 (N : Nat) (y : List lex_Token) (y2 : Int) (y3 : Int) : Option (lex_Token × List lex_Token × Int × Int) :=
  bif (ltB y2 (List.length y : Int)) then
   (ix y y2).bind fun e =>
   some (e, y, y2, y3)
  else
   some ((lex_Token.mk 0 0 [] (value_Value.mk 0 0 0 [])), y, y2, y3)
def s_predtext_parser_place_v424 (N : Nat) (y : List lex_Token) (y2 : Int) (y3 : Int) : Option (Int × List lex_Token × Int × Int) :=
  bif (ltB y2 (List.length y : Int)) then
   (ix y y2).bind fun e =>
   some (e.At, y, y2, y3)
  else
   some (y3, y, y2, y3)
def s_predtext_parser_fail_v927 (N : Nat) (e : Int) (y : List lex_Token) (y2 : Int) (y3 : Int) : Option (Int × Int × List lex_Token × Int × Int) :=
  (s_predtext_parser_place_v424 N y y2 y3).bind fun plac =>
  some (e, plac.1, plac.2.1, plac.2.2.1, plac.2.2.2)
def s_predtext_parser_deeper_v927 (N : Nat) (deep : Int) (y : List lex_Token) (y2 : Int) (y3 : Int) : Option ((Int × Int × List lex_Token × Int × Int) ⊕ (List lex_Token × Int × Int)) :=
  (s_predtext_parser_next_v424 N y y2 y3).bind fun vnext =>
  bif (vnext.1.Kind == 2) then
   bif (vnext.1.Text == [110, 111, 116]) then
    bif (leB 16 deep) then
     (s_predtext_parser_fail_v927 N 15 vnext.2.1 vnext.2.2.1 vnext.2.2.2).bind fun fail =>
     some (Sum.inl (fail.1, fail.2.1, fail.2.2.1, fail.2.2.2.1, fail.2.2.2.2))
    else
     some (Sum.inr (vnext.2.1, vnext.2.2.1, vnext.2.2.2))
   else
    bif (vnext.1.Kind == 4) then
     bif (vnext.1.Text == [40]) then
      bif (leB 16 deep) then
       (s_predtext_parser_fail_v927 N 15 vnext.2.1 vnext.2.2.1 vnext.2.2.2).bind fun fail2 =>
       some (Sum.inl (fail2.1, fail2.2.1, fail2.2.2.1, fail2.2.2.2.1, fail2.2.2.2.2))
      else
       some (Sum.inr (vnext.2.1, vnext.2.2.1, vnext.2.2.2))
     else
      some (Sum.inr (vnext.2.1, vnext.2.2.1, vnext.2.2.2))
    else
     some (Sum.inr (vnext.2.1, vnext.2.2.1, vnext.2.2.2))
  else
   bif (vnext.1.Kind == 4) then
    bif (vnext.1.Text == [40]) then
     bif (leB 16 deep) then
      (s_predtext_parser_fail_v927 N 15 vnext.2.1 vnext.2.2.1 vnext.2.2.2).bind fun fail3 =>
      some (Sum.inl (fail3.1, fail3.2.1, fail3.2.2.1, fail3.2.2.2.1, fail3.2.2.2.2))
     else
      some (Sum.inr (vnext.2.1, vnext.2.2.1, vnext.2.2.2))
    else
     some (Sum.inr (vnext.2.1, vnext.2.2.1, vnext.2.2.2))
   else
    some (Sum.inr (vnext.2.1, vnext.2.2.1, vnext.2.2.2))
def s_predtext_parser_eat_v368 (N : Nat) (kind : Int) (text : List UInt8) (y : List lex_Token) (y2 : Int) (y3 : Int) : Option (Bool × List lex_Token × Int × Int) :=
  (s_predtext_parser_next_v424 N y y2 y3).bind fun vnext =>
  bif (vnext.1.Kind != kind) then
   some (false, vnext.2.1, vnext.2.2.1, vnext.2.2.2)
  else
   bif (!(vnext.1.Text == text)) then
    some (false, vnext.2.1, vnext.2.2.1, vnext.2.2.2)
   else
    gd (i64b (vnext.2.2.1 + 1)) (
    some (true, vnext.2.1, (vnext.2.2.1 + 1), vnext.2.2.2))
def s_slices_Grow_pred_Node_own (N : Nat) (n : Int) : Option (List pred_Node) := gd (leB 0 n) (gd (leB (80 * n) 140737488355328) (some []))
def s_slices_Concat_pred_Node_2 (N : Nat) (x4 : List (List pred_Node)) (x5 : Int) (next2 : Int → (List pred_Node) → Option ((List UInt8) ⊕ (List pred_Node))) (x6 : Int) (ys : List pred_Node) : Option ((List UInt8) ⊕ (List pred_Node)) :=
  bif (ltB x6 x5) then
   (ix x4 x6).bind fun e2 =>
   gd (Nat.ble ((List.length ys + List.length e2) * 80) 140737488355328) (
   gd (i64b (x6 + 1)) (
   next2 (x6 + 1) (ys ++ e2)))
  else
   some (Sum.inr ys)
def s_slices_Concat_pred_Node_1 (N : Nat) (slices : List (List pred_Node)) (x : List (List pred_Node)) (x2 : Int) (next0 : Int → Int → Option ((List UInt8) ⊕ (List pred_Node))) (size : Int) (x3 : Int) : Option ((List UInt8) ⊕ (List pred_Node)) :=
  bif (ltB x3 x2) then
   (ix x x3).bind fun e =>
   gd (i64b (size + (List.length e : Int))) (
   bif (ltB (size + (List.length e : Int)) 0) then
    some (Sum.inl [108, 101, 110, 32, 111, 117, 116, 32, 111, 102, 32, 114, 97, 110, 103, 101])
   else
    gd (i64b (x3 + 1)) (
    next0 (size + (List.length e : Int)) (x3 + 1)))
  else
   (s_slices_Grow_pred_Node_own N size).bind fun node =>
   lp2 (s_slices_Concat_pred_Node_2 N slices (List.length slices : Int)) N 0 node
def s_slices_Concat_pred_Node (N : Nat) (slices : List (List pred_Node)) : Option ((List UInt8) ⊕ (List pred_Node)) :=
  lp2 (s_slices_Concat_pred_Node_1 N slices slices (List.length slices : Int)) N 0 0
def s_predtext_above (N : Nat) (n : pred_Node) (kids : List (List pred_Node)) : Option (List pred_Node) :=
  (s_slices_Concat_pred_Node N kids).bind fun x => Sum.elim
  (fun node =>
   none)
  (fun node2 =>
   gd (Nat.ble ((1 + List.length node2) * 80) 140737488355328) (
   some (n :: node2))) x
def s_predtext_parser_take_v128 (N : Nat) (kind : Int) (y : List lex_Token) (y2 : Int) (y3 : Int) : Option ((Int × Int × List lex_Token × Int × Int) ⊕ (lex_Token × List lex_Token × Int × Int)) :=
  (s_predtext_parser_next_v424 N y y2 y3).bind fun vnext =>
  bif (vnext.1.Kind != kind) then
   (s_predtext_parser_fail_v927 N 4 vnext.2.1 vnext.2.2.1 vnext.2.2.2).bind fun fail =>
   some (Sum.inl (fail.1, fail.2.1, fail.2.2.1, fail.2.2.2.1, fail.2.2.2.2))
  else
   gd (i64b (vnext.2.2.1 + 1)) (
   some (Sum.inr (vnext.1, vnext.2.1, (vnext.2.2.1 + 1), vnext.2.2.2)))
def s_predtext_parser_unit_v424 (N : Nat) (y : List lex_Token) (y2 : Int) (y3 : Int) : Option ((Int × Int × List lex_Token × Int × Int) ⊕ (List pred_Node × List lex_Token × Int × Int)) :=
  (s_predtext_parser_eat_v368 N 4 [45] y y2 y3).bind fun eat =>
  bif eat.1 then
   (s_predtext_parser_next_v424 N eat.2.1 eat.2.2.1 eat.2.2.2).bind fun vnext =>
   bif (vnext.1.Val.Kind != 1) then
    (s_predtext_parser_fail_v927 N 4 vnext.2.1 vnext.2.2.1 vnext.2.2.2).bind fun fail =>
    some (Sum.inl (fail.1, fail.2.1, fail.2.2.1, fail.2.2.2.1, fail.2.2.2.2))
   else
    (s_predtext_parser_take_v128 N 3 vnext.2.1 vnext.2.2.1 vnext.2.2.2).bind fun x => Sum.elim
    (fun take =>
     some (Sum.inl (take.1, take.2.1, take.2.2.1, take.2.2.2.1, take.2.2.2.2)))
    (fun take2 =>
     some (Sum.inr ([(pred_Node.mk 9 0 [] [] (value_Value.mk take2.1.Val.Kind (IntKind.i64.wrap (0 - take2.1.Val.N)) take2.1.Val.Bits take2.1.Val.Text))], take2.2.1, take2.2.2.1, take2.2.2.2))) x
  else
   (s_predtext_parser_next_v424 N eat.2.1 eat.2.2.1 eat.2.2.2).bind fun vnext2 =>
   bif (vnext2.1.Kind == 3) then
    gd (i64b (vnext2.2.2.1 + 1)) (
    some (Sum.inr ([(pred_Node.mk 9 0 [] [] vnext2.1.Val)], vnext2.2.1, (vnext2.2.2.1 + 1), vnext2.2.2.2)))
   else
    (s_predtext_parser_take_v128 N 1 vnext2.2.1 vnext2.2.2.1 vnext2.2.2.2).bind fun x => Sum.elim
    (fun take3 =>
     some (Sum.inl (take3.1, take3.2.1, take3.2.2.1, take3.2.2.2.1, take3.2.2.2.2)))
    (fun take4 =>
     (s_predtext_parser_eat_v368 N 4 [46] take4.2.1 take4.2.2.1 take4.2.2.2).bind fun eat2 =>
     bif eat2.1 then
      (s_predtext_parser_take_v128 N 1 eat2.2.1 eat2.2.2.1 eat2.2.2.2).bind fun x => Sum.elim
      (fun take5 =>
       some (Sum.inl (take5.1, take5.2.1, take5.2.2.1, take5.2.2.2.1, take5.2.2.2.2)))
      (fun take6 =>
       some (Sum.inr ([(pred_Node.mk 8 0 take4.1.Text take6.1.Text (value_Value.mk 0 0 0 []))], take6.2.1, take6.2.2.1, take6.2.2.2))) x
     else
      some (Sum.inr ([(pred_Node.mk 7 0 [] take4.1.Text (value_Value.mk 0 0 0 []))], eat2.2.1, eat2.2.2.1, eat2.2.2.2))) x
def s_predtext_parser_sum_v424_1 (N : Nat) (next0 : (List pred_Node) → (List lex_Token) → Int → Int → Option ((Int × Int × List lex_Token × Int × Int) ⊕ (List pred_Node × List lex_Token × Int × Int))) (l : List pred_Node) (y4 : List lex_Token) (y5 : Int) (y6 : Int) : Option ((Int × Int × List lex_Token × Int × Int) ⊕ (List pred_Node × List lex_Token × Int × Int)) :=
  (s_predtext_parser_eat_v368 N 4 [43] y4 y5 y6).bind fun eat =>
  bif eat.1 then
   (s_predtext_parser_unit_v424 N eat.2.1 eat.2.2.1 eat.2.2.2).bind fun x => Sum.elim
   (fun unit3 =>
    some (Sum.inl (unit3.1, unit3.2.1, unit3.2.2.1, unit3.2.2.2.1, unit3.2.2.2.2)))
   (fun unit4 =>
    (s_predtext_above N (pred_Node.mk 5 0 [] [] (value_Value.mk 0 0 0 [])) [l, unit4.1]).bind fun abov =>
    next0 abov unit4.2.1 unit4.2.2.1 unit4.2.2.2) x
  else
   (s_predtext_parser_eat_v368 N 4 [45] eat.2.1 eat.2.2.1 eat.2.2.2).bind fun eat2 =>
   bif eat2.1 then
    (s_predtext_parser_unit_v424 N eat2.2.1 eat2.2.2.1 eat2.2.2.2).bind fun x => Sum.elim
    (fun unit5 =>
     some (Sum.inl (unit5.1, unit5.2.1, unit5.2.2.1, unit5.2.2.2.1, unit5.2.2.2.2)))
    (fun unit6 =>
     (s_predtext_above N (pred_Node.mk 6 0 [] [] (value_Value.mk 0 0 0 [])) [l, unit6.1]).bind fun abov2 =>
     next0 abov2 unit6.2.1 unit6.2.2.1 unit6.2.2.2) x
   else
    some (Sum.inr (l, eat2.2.1, eat2.2.2.1, eat2.2.2.2))
def s_predtext_parser_sum_v424 (N : Nat) (y : List lex_Token) (y2 : Int) (y3 : Int) : Option ((Int × Int × List lex_Token × Int × Int) ⊕ (List pred_Node × List lex_Token × Int × Int)) :=
  (s_predtext_parser_unit_v424 N y y2 y3).bind fun x => Sum.elim
  (fun unit =>
   some (Sum.inl (unit.1, unit.2.1, unit.2.2.1, unit.2.2.2.1, unit.2.2.2.2)))
  (fun unit2 =>
   lp4 (s_predtext_parser_sum_v424_1 N) N unit2.1 unit2.2.1 unit2.2.2.1 unit2.2.2.2) x
def s_compare_Sign (N : Nat) (op : Int) : Option (List UInt8) :=
  bif (op == 1) then
   some [61]
  else
   bif (op == 2) then
    some [33, 61]
   else
    bif (op == 3) then
     some [60]
    else
     bif (op == 4) then
      some [60, 61]
     else
      bif (op == 5) then
       some [62]
      else
       bif (op == 6) then
        some [62, 61]
       else
        some []
def s_compare_Op_1 (N : Nat) (sign : List UInt8) (next0 : Int → Option Int) (op : Int) : Option Int :=
  bif (leB op 6) then
   (s_compare_Sign N op).bind fun sign2 =>
   bif (sign2 == sign) then
    some op
   else
    next0 (IntKind.u8.wrap (op + 1))
  else
   some 0
def s_compare_Op (N : Nat) (sign : List UInt8) : Option Int :=
  lp1 (s_compare_Op_1 N sign) N 1
abbrev TS_predtext_parser_or_v927 : Type := (Int → (List lex_Token) → Int → Int → Option ((Int × Int × List lex_Token × Int × Int) ⊕ (List pred_Node × List lex_Token × Int × Int))) × (Int → (List lex_Token) → Int → Int → Option ((Int × Int × List lex_Token × Int × Int) ⊕ (List pred_Node × List lex_Token × Int × Int))) × (Int → (List lex_Token) → Int → Int → Option ((Int × Int × List lex_Token × Int × Int) ⊕ (List pred_Node × List lex_Token × Int × Int)))
def s_predtext_parser_or_v927_1 (N : Nat) (p : TS_predtext_parser_or_v927) (deep : Int) (next0 : (List pred_Node) → (List lex_Token) → Int → Int → Option ((Int × Int × List lex_Token × Int × Int) ⊕ (List pred_Node × List lex_Token × Int × Int))) (l : List pred_Node) (y4 : List lex_Token) (y5 : Int) (y6 : Int) : Option ((Int × Int × List lex_Token × Int × Int) ⊕ (List pred_Node × List lex_Token × Int × Int)) :=
  (s_predtext_parser_eat_v368 N 2 [111, 114] y4 y5 y6).bind fun eat =>
  bif eat.1 then
   (p.2.1 deep eat.2.1 eat.2.2.1 eat.2.2.2).bind fun x => Sum.elim
   (fun and3 =>
    some (Sum.inl (and3.1, and3.2.1, and3.2.2.1, and3.2.2.2.1, and3.2.2.2.2)))
   (fun and4 =>
    (s_predtext_above N (pred_Node.mk 2 0 [] [] (value_Value.mk 0 0 0 [])) [l, and4.1]).bind fun abov =>
    next0 abov and4.2.1 and4.2.2.1 and4.2.2.2) x
  else
   some (Sum.inr (l, eat.2.1, eat.2.2.1, eat.2.2.2))
def b_predtext_parser_or_v927 (N : Nat) (p : TS_predtext_parser_or_v927) (deep : Int) (y : List lex_Token) (y2 : Int) (y3 : Int) : Option ((Int × Int × List lex_Token × Int × Int) ⊕ (List pred_Node × List lex_Token × Int × Int)) :=
  (p.2.1 deep y y2 y3).bind fun x => Sum.elim
  (fun and =>
   some (Sum.inl (and.1, and.2.1, and.2.2.1, and.2.2.2.1, and.2.2.2.2)))
  (fun and2 =>
   lp4 (s_predtext_parser_or_v927_1 N p deep) N and2.1 and2.2.1 and2.2.2.1 and2.2.2.2) x
def s_predtext_parser_and_v927_1 (N : Nat) (p : TS_predtext_parser_or_v927) (deep : Int) (next0 : (List pred_Node) → (List lex_Token) → Int → Int → Option ((Int × Int × List lex_Token × Int × Int) ⊕ (List pred_Node × List lex_Token × Int × Int))) (l : List pred_Node) (y4 : List lex_Token) (y5 : Int) (y6 : Int) : Option ((Int × Int × List lex_Token × Int × Int) ⊕ (List pred_Node × List lex_Token × Int × Int)) :=
  (s_predtext_parser_eat_v368 N 2 [97, 110, 100] y4 y5 y6).bind fun eat =>
  bif eat.1 then
   (p.2.2 deep eat.2.1 eat.2.2.1 eat.2.2.2).bind fun x => Sum.elim
   (fun part3 =>
    some (Sum.inl (part3.1, part3.2.1, part3.2.2.1, part3.2.2.2.1, part3.2.2.2.2)))
   (fun part4 =>
    (s_predtext_above N (pred_Node.mk 1 0 [] [] (value_Value.mk 0 0 0 [])) [l, part4.1]).bind fun abov =>
    next0 abov part4.2.1 part4.2.2.1 part4.2.2.2) x
  else
   some (Sum.inr (l, eat.2.1, eat.2.2.1, eat.2.2.2))
def b_predtext_parser_and_v927 (N : Nat) (p : TS_predtext_parser_or_v927) (deep : Int) (y : List lex_Token) (y2 : Int) (y3 : Int) : Option ((Int × Int × List lex_Token × Int × Int) ⊕ (List pred_Node × List lex_Token × Int × Int)) :=
  (p.2.2 deep y y2 y3).bind fun x => Sum.elim
  (fun part =>
   some (Sum.inl (part.1, part.2.1, part.2.2.1, part.2.2.2.1, part.2.2.2.2)))
  (fun part2 =>
   lp4 (s_predtext_parser_and_v927_1 N p deep) N part2.1 part2.2.1 part2.2.2.1 part2.2.2.2) x
def b_predtext_parser_part_v927 (N : Nat) (p : TS_predtext_parser_or_v927) (deep : Int) (y : List lex_Token) (y2 : Int) (y3 : Int) : Option ((Int × Int × List lex_Token × Int × Int) ⊕ (List pred_Node × List lex_Token × Int × Int)) :=
  (s_predtext_parser_deeper_v927 N deep y y2 y3).bind fun x => Sum.elim
  (fun deep2 =>
   some (Sum.inl (deep2.1, deep2.2.1, deep2.2.2.1, deep2.2.2.2.1, deep2.2.2.2.2)))
  (fun deep3 =>
   (s_predtext_parser_eat_v368 N 2 [110, 111, 116] deep3.1 deep3.2.1 deep3.2.2).bind fun eat =>
   bif eat.1 then
    gd (i64b (deep + 1)) (
    (p.2.2 (deep + 1) eat.2.1 eat.2.2.1 eat.2.2.2).bind fun x => Sum.elim
    (fun part =>
     some (Sum.inl (part.1, part.2.1, part.2.2.1, part.2.2.2.1, part.2.2.2.2)))
    (fun part2 =>
     (s_predtext_above N (pred_Node.mk 3 0 [] [] (value_Value.mk 0 0 0 [])) [part2.1]).bind fun abov =>
     some (Sum.inr (abov, part2.2.1, part2.2.2.1, part2.2.2.2))) x)
   else
    (s_predtext_parser_eat_v368 N 4 [40] eat.2.1 eat.2.2.1 eat.2.2.2).bind fun eat2 =>
    bif eat2.1 then
     gd (i64b (deep + 1)) (
     (p.1 (deep + 1) eat2.2.1 eat2.2.2.1 eat2.2.2.2).bind fun x => Sum.elim
     (fun or =>
      some (Sum.inl (or.1, or.2.1, or.2.2.1, or.2.2.2.1, or.2.2.2.2)))
     (fun or2 =>
      (s_predtext_parser_eat_v368 N 4 [41] or2.2.1 or2.2.2.1 or2.2.2.2).bind fun eat3 =>
      bif (!eat3.1) then
       (s_predtext_parser_fail_v927 N 4 eat3.2.1 eat3.2.2.1 eat3.2.2.2).bind fun fail =>
       some (Sum.inl (fail.1, fail.2.1, fail.2.2.1, fail.2.2.2.1, fail.2.2.2.2))
      else
       some (Sum.inr (or2.1, eat3.2.1, eat3.2.2.1, eat3.2.2.2))) x)
    else
     (s_predtext_parser_sum_v424 N eat2.2.1 eat2.2.2.1 eat2.2.2.2).bind fun x => Sum.elim
     (fun sum =>
      some (Sum.inl (sum.1, sum.2.1, sum.2.2.1, sum.2.2.2.1, sum.2.2.2.2)))
     (fun sum2 =>
      (s_predtext_parser_next_v424 N sum2.2.1 sum2.2.2.1 sum2.2.2.2).bind fun vnext =>
      (s_compare_Op N vnext.1.Text).bind fun op =>
      bif (op == 0) then
       (s_predtext_parser_fail_v927 N 4 vnext.2.1 vnext.2.2.1 vnext.2.2.2).bind fun fail2 =>
       some (Sum.inl (fail2.1, fail2.2.1, fail2.2.2.1, fail2.2.2.2.1, fail2.2.2.2.2))
      else
       (s_predtext_parser_take_v128 N 4 vnext.2.1 vnext.2.2.1 vnext.2.2.2).bind fun x => Sum.elim
       (fun take =>
        some (Sum.inl (take.1, take.2.1, take.2.2.1, take.2.2.2.1, take.2.2.2.2)))
       (fun take2 =>
        (s_predtext_parser_sum_v424 N take2.2.1 take2.2.2.1 take2.2.2.2).bind fun x => Sum.elim
        (fun sum3 =>
         some (Sum.inl (sum3.1, sum3.2.1, sum3.2.2.1, sum3.2.2.2.1, sum3.2.2.2.2)))
        (fun sum4 =>
         (s_predtext_above N (pred_Node.mk 4 op [] [] (value_Value.mk 0 0 0 [])) [sum2.1, sum4.1]).bind fun abov2 =>
         some (Sum.inr (abov2, sum4.2.1, sum4.2.2.1, sum4.2.2.2))) x) x) x) x
def SS_predtext_parser_or_v927 (N : Nat) : TS_predtext_parser_or_v927 := Nat.rec (motive := fun _ => TS_predtext_parser_or_v927) ((fun _ _ _ _ => none), (fun _ _ _ _ => none), (fun _ _ _ _ => none)) (fun N p => ((b_predtext_parser_or_v927 N p), (b_predtext_parser_and_v927 N p), (b_predtext_parser_part_v927 N p))) N
def s_predtext_parser_or_v927 (N : Nat) (deep : Int) (y : List lex_Token) (y2 : Int) (y3 : Int) : Option ((Int × Int × List lex_Token × Int × Int) ⊕ (List pred_Node × List lex_Token × Int × Int)) := (SS_predtext_parser_or_v927 N).1 deep y y2 y3
def s_predtext_parser_and_v927 (N : Nat) (deep : Int) (y : List lex_Token) (y2 : Int) (y3 : Int) : Option ((Int × Int × List lex_Token × Int × Int) ⊕ (List pred_Node × List lex_Token × Int × Int)) := (SS_predtext_parser_or_v927 N).2.1 deep y y2 y3
def s_predtext_parser_part_v927 (N : Nat) (deep : Int) (y : List lex_Token) (y2 : Int) (y3 : Int) : Option ((Int × Int × List lex_Token × Int × Int) ⊕ (List pred_Node × List lex_Token × Int × Int)) := (SS_predtext_parser_or_v927 N).2.2 deep y y2 y3
def s_pred_Node_stands (N : Nat) (n : pred_Node) (vwhere : Int) : Option Bool :=
  bif (vwhere == 0) then
   bif (leB 1 n.Kind) then
    some (leB n.Kind 4)
   else
    some false
  else
   bif (vwhere == 1) then
    bif (leB 5 n.Kind) then
     some (leB n.Kind 9)
    else
     some false
   else
    bif (leB 7 n.Kind) then
     some (leB n.Kind 9)
    else
     some false
def s_schema_letter (N : Nat) (c : Int) : Option Bool :=
  bif (leB 97 c) then
   some (leB c 122)
  else
   some false
def s_schema_Reserved (N : Nat) (s : List UInt8) : Option Bool :=
  bif (s == [119, 105, 116, 104, 105, 110]) then
   bif (s == [119, 105, 116, 104, 105, 110]) then
    some true
   else
    some false
  else
   bif (s == [98, 121]) then
    bif (s == [98, 121]) then
     some true
    else
     some false
   else
    bif (s == [97, 110, 100]) then
     bif (s == [97, 110, 100]) then
      some true
     else
      some false
    else
     bif (s == [111, 114]) then
      bif (s == [111, 114]) then
       some true
      else
       some false
     else
      bif (s == [110, 111, 116]) then
       bif (s == [110, 111, 116]) then
        some true
       else
        some false
      else
       bif (s == [97, 110, 121]) then
        bif (s == [97, 110, 121]) then
         some true
        else
         some false
       else
        bif (s == [110, 101, 120, 116]) then
         bif (s == [110, 101, 120, 116]) then
          some true
         else
          some false
        else
         bif (s == [115, 116, 114, 105, 99, 116]) then
          bif (s == [115, 116, 114, 105, 99, 116]) then
           some true
          else
           some false
         else
          bif (s == [116, 114, 117, 101]) then
           bif (s == [116, 114, 117, 101]) then
            some true
           else
            some false
          else
           bif (s == [102, 97, 108, 115, 101]) then
            some true
           else
            some false
def s_schema_tail (N : Nat) (c : Int) : Option Bool :=
  (s_schema_letter N c).bind fun lett =>
  bif lett then
   some true
  else
   bif (leB 48 c) then
    bif (leB c 57) then
     some true
    else
     some (c == 95)
   else
    some (c == 95)
def s_schema_Name_1 (N : Nat) (s : List UInt8) (next0 : Int → Option Bool) (i : Int) : Option Bool :=
  bif (ltB i (List.length s : Int)) then
   (ix s i).bind fun c2 =>
   (s_schema_tail N (UInt8.toNat c2 : Int)).bind fun tail =>
   bif (!tail) then
    some false
   else
    gd (i64b (i + 1)) (
    next0 (i + 1))
  else
   some true
def s_schema_Name (N : Nat) (s : List UInt8) : Option Bool :=
  bif (s == []) then
   some false
  else
   bif (ltB 12 (List.length s : Int)) then
    some false
   else
    (ix s 0).bind fun c =>
    (s_schema_letter N (UInt8.toNat c : Int)).bind fun lett =>
    bif (!lett) then
     some false
    else
     (s_schema_Reserved N s).bind fun rese =>
     bif rese then
      some false
     else
      lp1 (s_schema_Name_1 N s) N 1
def s_value_core (N : Nat) (v : value_Value) : Option (Int ⊕ Int ⊕ Int ⊕ (List UInt8) ⊕ Unit) :=
  bif (v.Kind == 1) then
   some (Sum.inl v.N)
  else
   bif (v.Kind == 2) then
    some (Sum.inr (Sum.inl v.N))
   else
    bif (v.Kind == 3) then
     some (Sum.inr (Sum.inr (Sum.inl v.Bits)))
    else
     bif (v.Kind == 4) then
      some (Sum.inr (Sum.inr (Sum.inr (Sum.inl v.Text))))
     else
      some (Sum.inr (Sum.inr (Sum.inr (Sum.inr ()))))
def s_value_number_whole (N : Nat) (n : Int) : Option value_Value :=
  some (value_Value.mk 1 n 0 [])
def s_value_flag_whole (N : Nat) (n : Int) : Option value_Value :=
  some (value_Value.mk 2 n 0 [])
def s_real_of (N : Nat) (u : Int) : Option Nat :=
  some (Int.toNat u)
def s_real_Clean (N : Nat) (u : Int) : Option Int :=
  (s_real_of N u).bind fun of =>
  bif (fcmpB .neq .f64 of of) then
   some 9221120237041090560
  else
   some u
def s_value_double_whole (N : Nat) (u : Int) : Option value_Value :=
  some (value_Value.mk 3 0 u [])
def s_value_words_whole (N : Nat) (s : List UInt8) : Option value_Value :=
  some (value_Value.mk 4 0 0 s)
def s_value_Check (N : Nat) (v : value_Value) : Option Int :=
  (s_value_core N v).bind fun x => Sum.elim
  (fun core =>
   bif (ltB core (-4611686018427387904)) then
    some 8
   else
    bif (ltB 4611686018427387904 core) then
     some 8
    else
     (s_value_number_whole N core).bind fun whol =>
     bif (!((whol.Kind == v.Kind) && ((whol.N == v.N) && ((whol.Bits == v.Bits) && (whol.Text == v.Text))))) then
      some 2
     else
      some 0)
  (Sum.elim
  (fun core2 =>
   bif (core2 != 0) then
    bif (core2 != 1) then
     some 8
    else
     (s_value_flag_whole N core2).bind fun whol2 =>
     bif (!((whol2.Kind == v.Kind) && ((whol2.N == v.N) && ((whol2.Bits == v.Bits) && (whol2.Text == v.Text))))) then
      some 2
     else
      some 0
   else
    (s_value_flag_whole N core2).bind fun whol3 =>
    bif (!((whol3.Kind == v.Kind) && ((whol3.N == v.N) && ((whol3.Bits == v.Bits) && (whol3.Text == v.Text))))) then
     some 2
    else
     some 0)
  (Sum.elim
  (fun core3 =>
   (s_real_Clean N core3).bind fun clea =>
   bif (clea != core3) then
    some 4
   else
    (s_value_double_whole N core3).bind fun whol4 =>
    bif (!((whol4.Kind == v.Kind) && ((whol4.N == v.N) && ((whol4.Bits == v.Bits) && (whol4.Text == v.Text))))) then
     some 2
    else
     some 0)
  (Sum.elim
  (fun core4 =>
   bif (ltB 24 (List.length core4 : Int)) then
    some 5
   else
    (s_value_words_whole N core4).bind fun whol5 =>
    bif (!((whol5.Kind == v.Kind) && ((whol5.N == v.N) && ((whol5.Bits == v.Bits) && (whol5.Text == v.Text))))) then
     some 2
    else
     some 0)
  (fun core5 =>
   some 11)))) x
def s_pred_Node_lacks (N : Nat) (n : pred_Node) : Option Bool :=
  bif (n.Kind == 4) then
   (s_compare_Sign N n.Op).bind fun sign =>
   some (sign == [])
  else
   bif (n.Kind == 7) then
    (s_schema_Name N n.Name).bind fun name =>
    some (!name)
   else
    bif (n.Kind == 8) then
     (s_schema_Name N n.Name).bind fun name2 =>
     bif (!name2) then
      some true
     else
      (s_schema_Name N n.Var).bind fun name3 =>
      some (!name3)
    else
     bif (n.Kind == 9) then
      (s_value_Check N n.Val).bind fun chec =>
      some (chec != 0)
     else
      some false
def s_pred_is_v782 (N : Nat) (n : pred_Node) (e : Int) : Option Int :=
  (s_pred_Node_lacks N n).bind fun lack =>
  bif lack then
   some e
  else
   some 0
def moreZ (v : value_Value) : Bool := (v.Kind == 0) && ((v.N == 0) && ((v.Bits == 0) && (v.Text == [])))
def moreB (n : pred_Node) : Bool :=
  bif n.Kind == 4 then !((n.Var == []) && ((n.Name == []) && moreZ n.Val))
  else bif n.Kind == 7 then !((n.Op == 0) && ((n.Var == []) && moreZ n.Val))
  else bif n.Kind == 8 then !((n.Op == 0) && moreZ n.Val)
  else bif n.Kind == 9 then !((n.Op == 0) && ((n.Var == []) && (n.Name == [])))
  else !((n.Op == 0) && ((n.Var == []) && ((n.Name == []) && moreZ n.Val)))
def s_pred_Node_more (N : Nat) (n : pred_Node) : Option Bool := some (moreB n)
def s_pred_is_v272 (N : Nat) (n : pred_Node) (e : Int) : Option Int :=
  (s_pred_Node_more N n).bind fun more =>
  bif more then
   some e
  else
   some 0
def s_pred_Kids (N : Nat) (kind : Int) : Option Int :=
  bif (kind == 1) then
   bif (kind == 1) then
    some 2
   else
    bif (kind == 3) then
     some 1
    else
     some 0
  else
   bif (kind == 2) then
    bif (kind == 2) then
     some 2
    else
     bif (kind == 3) then
      some 1
     else
      some 0
   else
    bif (kind == 4) then
     bif (kind == 4) then
      some 2
     else
      bif (kind == 3) then
       some 1
      else
       some 0
    else
     bif (kind == 5) then
      bif (kind == 5) then
       some 2
      else
       bif (kind == 3) then
        some 1
       else
        some 0
     else
      bif (kind == 6) then
       some 2
      else
       bif (kind == 3) then
        some 1
       else
        some 0
def s_pred_Node_kid (N : Nat) (n : pred_Node) (which : Int) : Option Int :=
  bif (leB n.Kind 3) then
   some 0
  else
   bif (n.Kind == 4) then
    bif (n.Kind == 4) then
     some 1
    else
     some 2
   else
    bif (which == 0) then
     some 1
    else
     some 2
abbrev TS_pred_checker_tree_v739 : Type := (Int → Int → (List pred_Node) → Int → Option (Int × List pred_Node × Int))
def s_pred_checker_tree_v739_1 (N : Nat) (p : TS_pred_checker_tree_v739) (deep : Int) (kids : Int) (y5 : Int) (y6 : Int) (y7 : List UInt8) (y8 : List UInt8) (y9 : Int) (y10 : Int) (y11 : Int) (y12 : List UInt8) (next0 : Int → (List pred_Node) → Int → Option (Int × List pred_Node × Int)) (x : Int) (y3 : List pred_Node) (y4 : Int) : Option (Int × List pred_Node × Int) :=
  bif (ltB x kids) then
   (s_pred_Node_kid N (pred_Node.mk y5 y6 y7 y8 (value_Value.mk y9 y10 y11 y12)) x).bind fun kid =>
   gd (i64b (deep + 1)) (
   (p kid (deep + 1) y3 y4).bind fun tree =>
   bif (tree.1 != 0) then
    some (tree.1, tree.2.1, tree.2.2)
   else
    gd (i64b (x + 1)) (
    next0 (x + 1) tree.2.1 tree.2.2))
  else
   some (0, y3, y4)
def b_pred_checker_tree_v739 (N : Nat) (p : TS_pred_checker_tree_v739) (vwhere : Int) (deep : Int) (y : List pred_Node) (y2 : Int) : Option (Int × List pred_Node × Int) :=
  bif (leB (List.length y : Int) y2) then
   some (3, y, y2)
  else
   (ix y y2).bind fun e =>
   bif (leB 16 deep) then
    some (15, y, y2)
   else
    (s_pred_Node_stands N e vwhere).bind fun stan =>
    bif (!stan) then
     some (11, y, y2)
    else
     (s_pred_is_v782 N e 4).bind fun is =>
     bif (is != 0) then
      some (is, y, y2)
     else
      (s_pred_is_v272 N e 2).bind fun is2 =>
      bif (is2 != 0) then
       some (is2, y, y2)
      else
       gd (i64b (y2 + 1)) (
       (s_pred_Kids N e.Kind).bind fun kids =>
       lp3 (s_pred_checker_tree_v739_1 N p deep kids e.Kind e.Op e.Var e.Name e.Val.Kind e.Val.N e.Val.Bits e.Val.Text) N 0 y (y2 + 1))
def SS_pred_checker_tree_v739 (N : Nat) : TS_pred_checker_tree_v739 := Nat.rec (motive := fun _ => TS_pred_checker_tree_v739) (fun _ _ _ _ => none) (fun N p => (b_pred_checker_tree_v739 N p)) N
def s_pred_checker_tree_v739 (N : Nat) (vwhere : Int) (deep : Int) (y : List pred_Node) (y2 : Int) : Option (Int × List pred_Node × Int) := (SS_pred_checker_tree_v739 N) vwhere deep y y2
def s_pred_Check (N : Nat) (l : List pred_Node) : Option Int :=
  bif (ltB 30 (List.length l : Int)) then
   some 5
  else
   bif ((List.length l : Int) == 0) then
    some 0
   else
    (s_pred_checker_tree_v739 N 0 0 l 0).bind fun tree =>
    bif (tree.1 != 0) then
     some tree.1
    else
     bif (ltB tree.2.2 (List.length l : Int)) then
      some 5
     else
      some 0
def s_predtext_Parse (N : Nat) (l : List lex_Token) (at_ e : Int) : Option ((List pred_Node × Int) ⊕ (List pred_Node × Int × Int × Int)) :=
  bif ltB at_ 0 then some (.inr ([], 0, 2, 0))
  else bif ltB (l.length : Int) at_ then some (.inr ([], 0, 2, 0))
  else (s_predtext_parser_place_v424 N l at_ e).bind fun x =>
    (s_predtext_parser_or_v927 N 0 x.2.1 x.2.2.1 x.2.2.2).bind fun y => Sum.elim
      (fun p => gd (p.1 != 0) (some (.inr ([], 0, p.1, p.2.1))))
      (fun r => (s_pred_Check N r.1).bind fun c => bif c != 0 then some (.inr ([], 0, c, x.1)) else some (.inl (r.1, r.2.2.1))) y
abbrev s_slices_Clone_schema_Field (N : Nat) (s : List schema_Field) : Option (List schema_Field) := shClone 24 s
def lastB : List bind_Pair → List UInt8 → event_Event × Bool
  | [], _ => (⟨0, 0, 0, [], []⟩, false)
  | p :: l, s => match lastB l s with
    | (e, true) => (e, true)
    | (_, false) => bif p.Var == s then (p.E, true) else (⟨0, 0, 0, [], []⟩, false)
def s_bind_Last (N : Nat) (b : List bind_Pair) (name : List UInt8) : Option (event_Event × Bool) := gd (Nat.ble b.length 1000000) (some (lastB b name))
def s_law20_awake (N : Nat) : Option Bool := some true
def s_law06_Over_2 (N : Nat) (l : List schema_Type) (i : Int) (next0 : Int → Option Int) (next2 : Int → Option Int) (k : Int) : Option Int :=
  (ix l i).bind fun e3 =>
  bif (ltB k (List.length e3.Fields : Int)) then
   (ix l i).bind fun e4 =>
   (ix e4.Fields k).bind fun e5 =>
   bif (ltB 40 (List.length e5.Name : Int)) then
    some 1
   else
    gd (i64b (k + 1)) (
    next2 (k + 1))
  else
   gd (i64b (i + 1)) (
   next0 (i + 1))
def s_law06_Over_1 (N : Nat) (l : List schema_Type) (next0 : Int → Option Int) (i : Int) : Option Int :=
  bif (ltB i (List.length l : Int)) then
   (ix l i).bind fun e =>
   bif (ltB 40 (List.length e.Name : Int)) then
    some 1
   else
    (ix l i).bind fun e2 =>
    bif (ltB 12 (List.length e2.Fields : Int)) then
     some 1
    else
     lp1 (s_law06_Over_2 N l i next0) N 0
  else
   some 0
def s_law06_Over (N : Nat) (l : List schema_Type) : Option Int :=
  bif (ltB 12 (List.length l : Int)) then
   some 1
  else
   lp1 (s_law06_Over_1 N l) N 0
def s_law07_Over_2 (N : Nat) (l : List event_Event) (i : Int) (next0 : Int → Option Int) (next2 : Int → Option Int) (k : Int) : Option Int :=
  (ix l i).bind fun e3 =>
  bif (ltB k (List.length e3.Vals : Int)) then
   (ix l i).bind fun e4 =>
   (ix e4.Vals k).bind fun e5 =>
   (s_law04_Small N e5).bind fun smal =>
   bif (ltB 0 smal) then
    some 1
   else
    gd (i64b (k + 1)) (
    next2 (k + 1))
  else
   gd (i64b (i + 1)) (
   next0 (i + 1))
def s_law07_Over_1 (N : Nat) (l : List event_Event) (next0 : Int → Option Int) (i : Int) : Option Int :=
  bif (ltB i (List.length l : Int)) then
   (ix l i).bind fun e =>
   bif (ltB 40 (List.length e.Type_ : Int)) then
    some 1
   else
    (ix l i).bind fun e2 =>
    bif (ltB 12 (List.length e2.Vals : Int)) then
     some 1
    else
     lp1 (s_law07_Over_2 N l i next0) N 0
  else
   some 0
def s_law07_Over (N : Nat) (l : List event_Event) (most : Int) : Option Int :=
  bif (ltB most (List.length l : Int)) then
   some 1
  else
   lp1 (s_law07_Over_1 N l) N 0
def s_law19_Long_1 (N : Nat) (l : List bind_Pair) (next0 : Int → Option Int) (i : Int) : Option Int :=
  bif (ltB i (List.length l : Int)) then
   (ix l i).bind fun e =>
   bif (ltB 40 (List.length e.Var : Int)) then
    some 1
   else
    (ix l i).bind fun e2 =>
    (s_law07_Over N [e2.E] 1).bind fun over =>
    bif (ltB 0 over) then
     some 1
    else
     gd (i64b (i + 1)) (
     next0 (i + 1))
  else
   some 0
def s_law19_Long (N : Nat) (l : List bind_Pair) : Option Int :=
  bif (ltB 20 (List.length l : Int)) then
   some 1
  else
   lp1 (s_law19_Long_1 N l) N 0
def s_law20_Over (N : Nat) (s : ref20_Scene) : Option Int :=
  (s_law06_Over N s.Types).bind fun over =>
  (s_law19_Long N s.Bound).bind fun long =>
  gd (i64b (over + long)) (
  (s_law07_Over N [s.E] 1).bind fun over2 =>
  gd (i64b ((over + long) + over2)) (
  some ((over + long) + over2)))
def s_law11_Own_1 (N : Nat) (l : List pred_Node) (next0 : Int → (List pred_Node) → Option (List pred_Node)) (i : Int) (ys : List pred_Node) : Option (List pred_Node) :=
  bif (ltB i (List.length l : Int)) then
   (ix l i).bind fun e =>
   gd (Nat.ble ((List.length ys + 1) * 80) 140737488355328) (
   gd (i64b (i + 1)) (
   next0 (i + 1) (ys ++ [e])))
  else
   some ys
def s_law11_Own (N : Nat) (l : List pred_Node) : Option (List pred_Node) :=
  lp2 (s_law11_Own_1 N l) N 0 []
def s_law06_Own_2 (N : Nat) (l : List schema_Type) (i : Int) (y : List UInt8) (next0 : Int → (List schema_Type) → Option (List schema_Type)) (next2 : Int → (List schema_Type) → (List schema_Field) → Option (List schema_Type)) (k : Int) (ys2 : List schema_Type) (ys3 : List schema_Field) : Option (List schema_Type) :=
  (ix l i).bind fun e2 =>
  bif (ltB k (List.length e2.Fields : Int)) then
   (ix l i).bind fun e3 =>
   (ix e3.Fields k).bind fun e4 =>
   gd (Nat.ble ((List.length ys3 + 1) * 24) 140737488355328) (
   gd (i64b (k + 1)) (
   next2 (k + 1) ys2 (ys3 ++ [e4])))
  else
   gd (Nat.ble ((List.length ys2 + 1) * 40) 140737488355328) (
   gd (i64b (i + 1)) (
   next0 (i + 1) (ys2 ++ [(schema_Type.mk y ys3)])))
def s_law06_Own_1 (N : Nat) (l : List schema_Type) (next0 : Int → (List schema_Type) → Option (List schema_Type)) (i : Int) (ys : List schema_Type) : Option (List schema_Type) :=
  bif (ltB i (List.length l : Int)) then
   (ix l i).bind fun e =>
   lp3 (s_law06_Own_2 N l i e.Name next0) N 0 ys []
  else
   some ys
def s_law06_Own (N : Nat) (l : List schema_Type) : Option (List schema_Type) :=
  lp2 (s_law06_Own_1 N l) N 0 []
def s_law06_Vals_1 (N : Nat) (l : List value_Value) (next0 : Int → (List value_Value) → Option (List value_Value)) (i : Int) (ys : List value_Value) : Option (List value_Value) :=
  bif (ltB i (List.length l : Int)) then
   (ix l i).bind fun e =>
   gd (Nat.ble ((List.length ys + 1) * 40) 140737488355328) (
   gd (i64b (i + 1)) (
   next0 (i + 1) (ys ++ [e])))
  else
   some ys
def s_law06_Vals (N : Nat) (l : List value_Value) : Option (List value_Value) :=
  lp2 (s_law06_Vals_1 N l) N 0 []
def s_law07_Own (N : Nat) (e : event_Event) : Option event_Event :=
  (s_law06_Vals N e.Vals).bind fun vals =>
  some (event_Event.mk e.Time e.Source e.Seq e.Type_ vals)
def s_law19_Pairs_own_1 (N : Nat) (l : List bind_Pair) (next0 : Int → (List bind_Pair) → Option (List bind_Pair)) (i : Int) (ys : List bind_Pair) : Option (List bind_Pair) :=
  bif (ltB i (List.length l : Int)) then
   (ix l i).bind fun e =>
   (ix l i).bind fun e2 =>
   (s_law07_Own N e2.E).bind fun own =>
   gd (Nat.ble ((List.length ys + 1) * 80) 140737488355328) (
   gd (i64b (i + 1)) (
   next0 (i + 1) (ys ++ [(bind_Pair.mk e.Var own)])))
  else
   some ys
def s_law19_Pairs_own (N : Nat) (l : List bind_Pair) : Option (List bind_Pair) :=
  lp2 (s_law19_Pairs_own_1 N l) N 0 []
def sortS (l : List (List UInt8)) : List (List UInt8) := l.mergeSort fun x y => decide (x ≤ y)
def s_slices_Sort_string_v986 (N : Nat) (xs : List (List UInt8)) : Option (List (List UInt8)) := gd (Nat.ble xs.length 4611686018427387903) (some (sortS xs))
def compS (l : List (List UInt8)) : List (List UInt8) := ((List.range l.length).filter fun j => decide (j = 0 ∨ l.toArray[j]! ≠ l.toArray[j - 1]!)).map fun j => l.toArray[j]!
def s_slices_Compact_string_v263_own (N : Nat) (xs : List (List UInt8)) : Option (List (List UInt8)) := gd (Nat.ble xs.length 4611686018427387903) (some (compS xs))
def s_pred_Vars_1 (N : Nat) (l : List pred_Node) (x : Int) (next0 : Int → (List (List UInt8)) → Option (List (List UInt8))) (x2 : Int) (ys : List (List UInt8)) : Option (List (List UInt8)) :=
  bif (ltB x2 x) then
   (ix l x2).bind fun e =>
   bif (e.Kind == 8) then
    gd (Nat.ble ((List.length ys + 1) * 16) 140737488355328) (
    gd (i64b (x2 + 1)) (
    next0 (x2 + 1) (ys ++ [e.Var])))
   else
    gd (i64b (x2 + 1)) (
    next0 (x2 + 1) ys)
  else
   (s_slices_Sort_string_v986 N ys).bind fun stri =>
   (s_slices_Compact_string_v263_own N stri).bind fun stri2 =>
   some stri2
def s_pred_Vars (N : Nat) (l : List pred_Node) : Option (List (List UInt8)) :=
  lp2 (s_pred_Vars_1 N l (List.length l : Int)) N 0 []
abbrev TS_judge_reader_side_v501 : Type := ((List pred_Node) → Int → Option (judge_side × List pred_Node × Int))
def b_judge_reader_side_v501 (N : Nat) (p : TS_judge_reader_side_v501) (y : List pred_Node) (y2 : Int) : Option (judge_side × List pred_Node × Int) :=
  (ix y y2).bind fun e =>
  gd (i64b (y2 + 1)) (
  bif (e.Kind == 9) then
   some ((judge_side.lit_ e.Val), y, (y2 + 1))
  else
   bif (e.Kind == 7) then
    some ((judge_side.own_ e.Name), y, (y2 + 1))
   else
    bif (e.Kind == 8) then
     some ((judge_side.of_ e.Var e.Name), y, (y2 + 1))
    else
     (p y (y2 + 1)).bind fun side =>
     bothN EqR.cls 1 (
      (p side.2.1 side.2.2).bind fun side2 =>
      some ((judge_side.sum_ (e.Kind == 6) side.1 side2.1), side2.2.1, side2.2.2)))
def SS_judge_reader_side_v501 (N : Nat) : TS_judge_reader_side_v501 := Nat.rec (motive := fun _ => TS_judge_reader_side_v501) (fun _ _ => none) (fun N p => (b_judge_reader_side_v501 N p)) N
def s_judge_reader_side_v501 (N : Nat) (y : List pred_Node) (y2 : Int) : Option (judge_side × List pred_Node × Int) := (SS_judge_reader_side_v501 N) y y2
abbrev TS_judge_reader_truth_v501 : Type := ((List pred_Node) → Int → Option (judge_truth × List pred_Node × Int))
def b_judge_reader_truth_v501 (N : Nat) (p : TS_judge_reader_truth_v501) (y : List pred_Node) (y2 : Int) : Option (judge_truth × List pred_Node × Int) :=
  (ix y y2).bind fun e =>
  gd (i64b (y2 + 1)) (
  bif (e.Kind == 1) then
   (p y (y2 + 1)).bind fun trut =>
   (p trut.2.1 trut.2.2).bind fun trut2 =>
   some ((judge_truth.and_ trut.1 trut2.1), trut2.2.1, trut2.2.2)
  else
   bif (e.Kind == 2) then
    (p y (y2 + 1)).bind fun trut3 =>
    (p trut3.2.1 trut3.2.2).bind fun trut4 =>
    some ((judge_truth.or_ trut3.1 trut4.1), trut4.2.1, trut4.2.2)
   else
    bif (e.Kind == 3) then
     (p y (y2 + 1)).bind fun trut5 =>
     some ((judge_truth.not_ trut5.1), trut5.2.1, trut5.2.2)
    else
     (s_judge_reader_side_v501 N y (y2 + 1)).bind fun side =>
     bothN EqR.cls 1 (
      (s_judge_reader_side_v501 N side.2.1 side.2.2).bind fun side2 =>
      some ((judge_truth.test_ e.Op side.1 side2.1), side2.2.1, side2.2.2)))
def SS_judge_reader_truth_v501 (N : Nat) : TS_judge_reader_truth_v501 := Nat.rec (motive := fun _ => TS_judge_reader_truth_v501) (fun _ _ => none) (fun N p => (b_judge_reader_truth_v501 N p)) N
def s_judge_reader_truth_v501 (N : Nat) (y : List pred_Node) (y2 : Int) : Option (judge_truth × List pred_Node × Int) := (SS_judge_reader_truth_v501 N) y y2
def s_judge_lit_value_v072 (N : Nat) (t : judge_lit) (y : List schema_Type) (y2 : List bind_Pair) (y3 : Int) (y4 : Int) (y5 : Int) (y6 : List UInt8) (y7 : List value_Value) : Option (value_Value × Bool × List schema_Type × List bind_Pair × Int × Int × Int × List UInt8 × List value_Value) :=
  some (t.v, true, y, y2, y3, y4, y5, y6, y7)
def s_schema_Find_1 (N : Nat) (name : List UInt8) (l : List schema_Type) (x : Int) (next0 : Int → Option (schema_Type × Bool)) (x2 : Int) : Option (schema_Type × Bool) :=
  bif (ltB x2 x) then
   (ix l x2).bind fun e =>
   bif (e.Name == name) then
    (s_slices_Clone_schema_Field N e.Fields).bind fun clon =>
    some ((schema_Type.mk name clon), true)
   else
    gd (i64b (x2 + 1)) (
    next0 (x2 + 1))
  else
   some ((schema_Type.mk [] []), false)
def s_schema_Find (N : Nat) (l : List schema_Type) (name : List UInt8) : Option (schema_Type × Bool) :=
  lp1 (s_schema_Find_1 N name l (List.length l : Int)) N 0
def s_schema_Type_Field_1 (N : Nat) (name : List UInt8) (x : List schema_Field) (x2 : Int) (next0 : Int → Option (Int × Int)) (x3 : Int) : Option (Int × Int) :=
  bif (ltB x3 x2) then
   (ix x x3).bind fun e =>
   bif (e.Name == name) then
    some (x3, e.Kind)
   else
    gd (i64b (x3 + 1)) (
    next0 (x3 + 1))
  else
   some ((-1), 0)
def s_schema_Type_Field (N : Nat) (t : schema_Type) (name : List UInt8) : Option (Int × Int) :=
  lp1 (s_schema_Type_Field_1 N name t.Fields (List.length t.Fields : Int)) N 0
def s_event_Event_Value (N : Nat) (e : event_Event) (types : List schema_Type) (field : List UInt8) : Option (value_Value × Bool) :=
  (s_schema_Find N types e.Type_).bind fun find =>
  (s_schema_Type_Field N find.1 field).bind fun fiel =>
  bif (ltB fiel.1 0) then
   some ((value_Value.mk 0 0 0 []), false)
  else
   bif (leB (List.length e.Vals : Int) fiel.1) then
    some ((value_Value.mk 0 0 0 []), false)
   else
    (ix e.Vals fiel.1).bind fun e2 =>
    some (e2, true)
def s_judge_of_value_v421 (N : Nat) (t : judge_of) (y : List schema_Type) (y2 : List bind_Pair) (y3 : Int) (y4 : Int) (y5 : Int) (y6 : List UInt8) (y7 : List value_Value) : Option (value_Value × Bool × List schema_Type × List bind_Pair × Int × Int × Int × List UInt8 × List value_Value) :=
  (s_bind_Last N y2 t.name).bind fun last =>
  bif (!last.2) then
   some ((value_Value.mk 0 0 0 []), false, y, y2, y3, y4, y5, y6, y7)
  else
   (s_event_Event_Value N last.1 y t.field).bind fun valu =>
   some (valu.1, valu.2, y, y2, y3, y4, y5, y6, y7)
def s_judge_own_value_v282 (N : Nat) (t : judge_own) (y : List schema_Type) (y2 : List bind_Pair) (y3 : Int) (y4 : Int) (y5 : Int) (y6 : List UInt8) (y7 : List value_Value) : Option (value_Value × Bool × List schema_Type × List bind_Pair × Int × Int × Int × List UInt8 × List value_Value) :=
  (s_event_Event_Value N (event_Event.mk y3 y4 y5 y6 y7) y t.name).bind fun valu =>
  some (valu.1, valu.2, y, y2, y3, y4, y5, y6, y7)
def s_compare_numeric (N : Nat) (kind : Int) : Option Bool :=
  bif (kind == 1) then
   some true
  else
   some (kind == 3)
def s_compare_summed (N : Nat) (va : value_Value) (b : value_Value) : Option Bool :=
  (s_value_Check N va).bind fun chec =>
  bif (chec == 0) then
   (s_value_Check N b).bind fun chec2 =>
   bif (chec2 == 0) then
    (s_compare_numeric N va.Kind).bind fun nume =>
    bif nume then
     (s_compare_numeric N b.Kind).bind fun nume2 =>
     some nume2
    else
     some false
   else
    some false
  else
   some false
def s_value_OfInt (N : Nat) (n : Int) : Option value_Value :=
  some (value_Value.mk 1 (max (-4611686018427387904) (min n 4611686018427387904)) 0 [])
def s_compare_whole (N : Nat) (va : Int) (b : Int) : Option (value_Value × Bool) :=
  bif (leB 0 b) then
   gd (i64b (4611686018427387904 - b)) (
   bif (ltB (4611686018427387904 - b) va) then
    some ((value_Value.mk 0 0 0 []), false)
   else
    bif (ltB b 0) then
     gd (i64b ((-4611686018427387904) - b)) (
     bif (ltB va ((-4611686018427387904) - b)) then
      some ((value_Value.mk 0 0 0 []), false)
     else
      gd (i64b (va + b)) (
      (s_value_OfInt N (va + b)).bind fun ofin =>
      some (ofin, true)))
    else
     gd (i64b (va + b)) (
     (s_value_OfInt N (va + b)).bind fun ofin2 =>
     some (ofin2, true)))
  else
   bif (ltB b 0) then
    gd (i64b ((-4611686018427387904) - b)) (
    bif (ltB va ((-4611686018427387904) - b)) then
     some ((value_Value.mk 0 0 0 []), false)
    else
     gd (i64b (va + b)) (
     (s_value_OfInt N (va + b)).bind fun ofin3 =>
     some (ofin3, true)))
   else
    gd (i64b (va + b)) (
    (s_value_OfInt N (va + b)).bind fun ofin4 =>
    some (ofin4, true))
def s_real_OfInt (N : Nat) (n : Int) : Option Int := some ((FloatKind.f64.nearest n : Nat) : Int)
def s_compare_double (N : Nat) (v : value_Value) : Option Int :=
  bif (v.Kind == 1) then
   (s_real_OfInt N v.N).bind fun ofin =>
   some ofin
  else
   some v.Bits
def s_real_Neg (N : Nat) (u : Int) : Option Int :=
  (s_real_Clean N (bwX .u64 u 9223372036854775808)).bind fun clea =>
  some clea
def s_real_Add (N : Nat) (a b : Int) : Option Int := some (rAdd a b)
def s_value_OfReal (N : Nat) (bits : Int) : Option value_Value :=
  (s_real_Clean N bits).bind fun clea =>
  some (value_Value.mk 3 0 clea [])
def s_compare_Minus (N : Nat) (va : value_Value) (b : value_Value) : Option (value_Value × Bool) :=
  (s_compare_summed N va b).bind fun summ =>
  bif (!summ) then
   some ((value_Value.mk 0 0 0 []), false)
  else
   bif (va.Kind == 1) then
    bif (b.Kind == 1) then
     (s_compare_whole N va.N (IntKind.i64.wrap (0 - b.N))).bind fun whol =>
     some (whol.1, whol.2)
    else
     (s_compare_double N va).bind fun doub =>
     (s_compare_double N b).bind fun doub2 =>
     (s_real_Neg N doub2).bind fun neg =>
     (s_real_Add N doub neg).bind fun add =>
     (s_value_OfReal N add).bind fun ofre =>
     some (ofre, true)
   else
    (s_compare_double N va).bind fun doub3 =>
    (s_compare_double N b).bind fun doub4 =>
    (s_real_Neg N doub4).bind fun neg2 =>
    (s_real_Add N doub3 neg2).bind fun add2 =>
    (s_value_OfReal N add2).bind fun ofre2 =>
    some (ofre2, true)
def s_compare_Plus (N : Nat) (va : value_Value) (b : value_Value) : Option (value_Value × Bool) :=
  (s_compare_summed N va b).bind fun summ =>
  bif (!summ) then
   some ((value_Value.mk 0 0 0 []), false)
  else
   bif (va.Kind == 1) then
    bif (b.Kind == 1) then
     (s_compare_whole N va.N b.N).bind fun whol =>
     some (whol.1, whol.2)
    else
     (s_compare_double N va).bind fun doub =>
     (s_compare_double N b).bind fun doub2 =>
     (s_real_Add N doub doub2).bind fun add =>
     (s_value_OfReal N add).bind fun ofre =>
     some (ofre, true)
   else
    (s_compare_double N va).bind fun doub3 =>
    (s_compare_double N b).bind fun doub4 =>
    (s_real_Add N doub3 doub4).bind fun add2 =>
    (s_value_OfReal N add2).bind fun ofre2 =>
    some (ofre2, true)
abbrev TS_judge_sum_value_v486 : Type := (judge_sum → (List schema_Type) → (List bind_Pair) → Int → Int → Int → (List UInt8) → (List value_Value) → Option (value_Value × Bool × List schema_Type × List bind_Pair × Int × Int × Int × List UInt8 × List value_Value))
def s_judge_sum_value_v486_k1 (N : Nat) (p : TS_judge_sum_value_v486) (t : judge_sum) (x : Int) (x2 : Int) (x3 : Int) (x4 : List UInt8) (x5 : Bool) (x6 : Int) (x7 : Int) (x8 : Int) (x9 : List UInt8) (x10 : Bool) (y15 : List schema_Type) (y16 : List bind_Pair) (y17 : Int) (y18 : Int) (y19 : Int) (y20 : List UInt8) (y21 : List value_Value) : Option (value_Value × Bool × List schema_Type × List bind_Pair × Int × Int × Int × List UInt8 × List value_Value) :=
  bif (!x5) then
   some ((value_Value.mk 0 0 0 []), false, y15, y16, y17, y18, y19, y20, y21)
  else
   bif (!x10) then
    some ((value_Value.mk 0 0 0 []), false, y15, y16, y17, y18, y19, y20, y21)
   else
    bif t.minus then
     (s_compare_Minus N (value_Value.mk x x2 x3 x4) (value_Value.mk x6 x7 x8 x9)).bind fun minu =>
     some (minu.1, minu.2, y15, y16, y17, y18, y19, y20, y21)
    else
     (s_compare_Plus N (value_Value.mk x x2 x3 x4) (value_Value.mk x6 x7 x8 x9)).bind fun plus =>
     some (plus.1, plus.2, y15, y16, y17, y18, y19, y20, y21)
def s_judge_sum_value_v486_k0 (N : Nat) (p : TS_judge_sum_value_v486) (t : judge_sum) (x : Int) (x2 : Int) (x3 : Int) (x4 : List UInt8) (x5 : Bool) (y8 : List schema_Type) (y9 : List bind_Pair) (y10 : Int) (y11 : Int) (y12 : Int) (y13 : List UInt8) (y14 : List value_Value) : Option (value_Value × Bool × List schema_Type × List bind_Pair × Int × Int × Int × List UInt8 × List value_Value) :=
  (match t.b with
  | .lit_ v2 =>
   (s_judge_lit_value_v072 N (judge_lit.mk v2) y8 y9 y10 y11 y12 y13 y14).bind fun valu5 =>
   s_judge_sum_value_v486_k1 N p t x x2 x3 x4 x5 valu5.1.Kind valu5.1.N valu5.1.Bits valu5.1.Text valu5.2.1 valu5.2.2.1 valu5.2.2.2.1 valu5.2.2.2.2.1 valu5.2.2.2.2.2.1 valu5.2.2.2.2.2.2.1 valu5.2.2.2.2.2.2.2.1 valu5.2.2.2.2.2.2.2.2
  | .of_ name3 field2 =>
   (s_judge_of_value_v421 N (judge_of.mk name3 field2) y8 y9 y10 y11 y12 y13 y14).bind fun valu6 =>
   s_judge_sum_value_v486_k1 N p t x x2 x3 x4 x5 valu6.1.Kind valu6.1.N valu6.1.Bits valu6.1.Text valu6.2.1 valu6.2.2.1 valu6.2.2.2.1 valu6.2.2.2.2.1 valu6.2.2.2.2.2.1 valu6.2.2.2.2.2.2.1 valu6.2.2.2.2.2.2.2.1 valu6.2.2.2.2.2.2.2.2
  | .own_ name4 =>
   (s_judge_own_value_v282 N (judge_own.mk name4) y8 y9 y10 y11 y12 y13 y14).bind fun valu7 =>
   s_judge_sum_value_v486_k1 N p t x x2 x3 x4 x5 valu7.1.Kind valu7.1.N valu7.1.Bits valu7.1.Text valu7.2.1 valu7.2.2.1 valu7.2.2.2.1 valu7.2.2.2.2.1 valu7.2.2.2.2.2.1 valu7.2.2.2.2.2.2.1 valu7.2.2.2.2.2.2.2.1 valu7.2.2.2.2.2.2.2.2
  | .sum_ minus2 va2 b2 =>
   (p (judge_sum.mk minus2 va2 b2) y8 y9 y10 y11 y12 y13 y14).bind fun valu8 =>
   s_judge_sum_value_v486_k1 N p t x x2 x3 x4 x5 valu8.1.Kind valu8.1.N valu8.1.Bits valu8.1.Text valu8.2.1 valu8.2.2.1 valu8.2.2.2.1 valu8.2.2.2.2.1 valu8.2.2.2.2.2.1 valu8.2.2.2.2.2.2.1 valu8.2.2.2.2.2.2.2.1 valu8.2.2.2.2.2.2.2.2)
def b_judge_sum_value_v486 (N : Nat) (p : TS_judge_sum_value_v486) (t : judge_sum) (y : List schema_Type) (y2 : List bind_Pair) (y3 : Int) (y4 : Int) (y5 : Int) (y6 : List UInt8) (y7 : List value_Value) : Option (value_Value × Bool × List schema_Type × List bind_Pair × Int × Int × Int × List UInt8 × List value_Value) :=
  (match t.a with
  | .lit_ v =>
   (s_judge_lit_value_v072 N (judge_lit.mk v) y y2 y3 y4 y5 y6 y7).bind fun valu =>
   s_judge_sum_value_v486_k0 N p t valu.1.Kind valu.1.N valu.1.Bits valu.1.Text valu.2.1 valu.2.2.1 valu.2.2.2.1 valu.2.2.2.2.1 valu.2.2.2.2.2.1 valu.2.2.2.2.2.2.1 valu.2.2.2.2.2.2.2.1 valu.2.2.2.2.2.2.2.2
  | .of_ name field =>
   (s_judge_of_value_v421 N (judge_of.mk name field) y y2 y3 y4 y5 y6 y7).bind fun valu2 =>
   s_judge_sum_value_v486_k0 N p t valu2.1.Kind valu2.1.N valu2.1.Bits valu2.1.Text valu2.2.1 valu2.2.2.1 valu2.2.2.2.1 valu2.2.2.2.2.1 valu2.2.2.2.2.2.1 valu2.2.2.2.2.2.2.1 valu2.2.2.2.2.2.2.2.1 valu2.2.2.2.2.2.2.2.2
  | .own_ name2 =>
   (s_judge_own_value_v282 N (judge_own.mk name2) y y2 y3 y4 y5 y6 y7).bind fun valu3 =>
   s_judge_sum_value_v486_k0 N p t valu3.1.Kind valu3.1.N valu3.1.Bits valu3.1.Text valu3.2.1 valu3.2.2.1 valu3.2.2.2.1 valu3.2.2.2.2.1 valu3.2.2.2.2.2.1 valu3.2.2.2.2.2.2.1 valu3.2.2.2.2.2.2.2.1 valu3.2.2.2.2.2.2.2.2
  | .sum_ minus va b =>
   (p (judge_sum.mk minus va b) y y2 y3 y4 y5 y6 y7).bind fun valu4 =>
   s_judge_sum_value_v486_k0 N p t valu4.1.Kind valu4.1.N valu4.1.Bits valu4.1.Text valu4.2.1 valu4.2.2.1 valu4.2.2.2.1 valu4.2.2.2.2.1 valu4.2.2.2.2.2.1 valu4.2.2.2.2.2.2.1 valu4.2.2.2.2.2.2.2.1 valu4.2.2.2.2.2.2.2.2)
def SS_judge_sum_value_v486 (N : Nat) : TS_judge_sum_value_v486 := Nat.rec (motive := fun _ => TS_judge_sum_value_v486) (fun _ _ _ _ _ _ _ _ => none) (fun N p => (b_judge_sum_value_v486 N p)) N
def s_judge_sum_value_v486 (N : Nat) (t : judge_sum) (y : List schema_Type) (y2 : List bind_Pair) (y3 : Int) (y4 : Int) (y5 : Int) (y6 : List UInt8) (y7 : List value_Value) : Option (value_Value × Bool × List schema_Type × List bind_Pair × Int × Int × Int × List UInt8 × List value_Value) := (SS_judge_sum_value_v486 N) t y y2 y3 y4 y5 y6 y7
def s_real_Equal (N : Nat) (va : Int) (b : Int) : Option Bool :=
  (s_real_of N va).bind fun of =>
  (s_real_of N b).bind fun of2 =>
  some (fcmpB .eql .f64 of of2)
def s_real_Less (N : Nat) (va : Int) (b : Int) : Option Bool :=
  (s_real_of N va).bind fun of =>
  (s_real_of N b).bind fun of2 =>
  some (fcmpB .lss .f64 of of2)
def s_compare_doubles (N : Nat) (va : Int) (b : Int) : Option (Int × Bool) :=
  (s_real_Equal N va b).bind fun equa =>
  bif equa then
   some (0, true)
  else
   (s_real_Less N va b).bind fun less =>
   bif less then
    some ((-1), true)
   else
    (s_real_Less N b va).bind fun less2 =>
    bif less2 then
     some (1, true)
    else
     some (0, false)
def s_real_Versus (N : Nat) (n u : Int) : Option (Int × Bool) := some (rVersus n u)
def s_cmp_isNaN_uint8 (N : Nat) (x : Int) : Option Bool :=
  some (x != x)
def s_cmp_Compare_uint8 (N : Nat) (x : Int) (y : Int) : Option Int :=
  (s_cmp_isNaN_uint8 N x).bind fun uint =>
  (s_cmp_isNaN_uint8 N y).bind fun uint2 =>
  bif uint then
   bif uint2 then
    some 0
   else
    some (-1)
  else
   bif uint2 then
    some 1
   else
    bif (ltB x y) then
     some (-1)
    else
     bif (ltB y x) then
      some 1
     else
      some 0
def s_cmp_isNaN_int (N : Nat) (x : Int) : Option Bool :=
  some (x != x)
def s_cmp_Compare_int (N : Nat) (x : Int) (y : Int) : Option Int :=
  (s_cmp_isNaN_int N x).bind fun int =>
  (s_cmp_isNaN_int N y).bind fun int2 =>
  bif int then
   bif int2 then
    some 0
   else
    some (-1)
  else
   bif int2 then
    some 1
   else
    bif (ltB x y) then
     some (-1)
    else
     bif (ltB y x) then
      some 1
     else
      some 0
def s_real_Rank (N : Nat) (u : Int) : Option Int :=
  (s_real_Clean N u).bind fun clea =>
  bif ((bwA .u64 clea 9223372036854775808) != 0) then
   some (unX .u64 clea)
  else
   some (bwO .u64 clea 9223372036854775808)
def s_cmp_isNaN_uint64 (N : Nat) (x : Int) : Option Bool :=
  some (x != x)
def s_cmp_Compare_uint64 (N : Nat) (x : Int) (y : Int) : Option Int :=
  (s_cmp_isNaN_uint64 N x).bind fun uint =>
  (s_cmp_isNaN_uint64 N y).bind fun uint2 =>
  bif uint then
   bif uint2 then
    some 0
   else
    some (-1)
  else
   bif uint2 then
    some 1
   else
    bif (ltB x y) then
     some (-1)
    else
     bif (ltB y x) then
      some 1
     else
      some 0
def s_cmp_isNaN_string (N : Nat) (x : List UInt8) : Option Bool :=
  some (!(x == x))
def s_cmp_Compare_string (N : Nat) (x : List UInt8) (y : List UInt8) : Option Int :=
  (s_cmp_isNaN_string N x).bind fun stri =>
  (s_cmp_isNaN_string N y).bind fun stri2 =>
  bif stri then
   bif stri2 then
    some 0
   else
    some (-1)
  else
   bif stri2 then
    some 1
   else
    bif (Op.bytesLess x y) then
     some (-1)
    else
     bif (!((Op.bytesLess x y) || (x == y))) then
      some 1
     else
      some 0
def s_value_Rank (N : Nat) (va : value_Value) (b : value_Value) : Option Int :=
  (s_cmp_Compare_uint8 N va.Kind b.Kind).bind fun uint =>
  bif (uint != 0) then
   some uint
  else
   bif (va.Kind == 1) then
    bif (va.Kind == 1) then
     (s_cmp_Compare_int N va.N b.N).bind fun int =>
     some int
    else
     bif (va.Kind == 3) then
      (s_real_Rank N va.Bits).bind fun rank =>
      (s_real_Rank N b.Bits).bind fun rank2 =>
      (s_cmp_Compare_uint64 N rank rank2).bind fun uint2 =>
      some uint2
     else
      bif (va.Kind == 4) then
       (s_cmp_Compare_string N va.Text b.Text).bind fun stri =>
       some stri
      else
       some 0
   else
    bif (va.Kind == 2) then
     (s_cmp_Compare_int N va.N b.N).bind fun int2 =>
     some int2
    else
     bif (va.Kind == 3) then
      (s_real_Rank N va.Bits).bind fun rank3 =>
      (s_real_Rank N b.Bits).bind fun rank4 =>
      (s_cmp_Compare_uint64 N rank3 rank4).bind fun uint3 =>
      some uint3
     else
      bif (va.Kind == 4) then
       (s_cmp_Compare_string N va.Text b.Text).bind fun stri2 =>
       some stri2
      else
       some 0
def s_compare_order (N : Nat) (va : value_Value) (b : value_Value) : Option (Int × Bool) :=
  bif (va.Kind == 3) then
   bif (b.Kind == 3) then
    (s_compare_doubles N va.Bits b.Bits).bind fun doub =>
    some (doub.1, doub.2)
   else
    bif (va.Kind == 3) then
     (s_real_Versus N b.N va.Bits).bind fun vers =>
     some ((IntKind.i64.wrap (0 - vers.1)), vers.2)
    else
     bif (b.Kind == 3) then
      (s_real_Versus N va.N b.Bits).bind fun vers2 =>
      some (vers2.1, vers2.2)
     else
      (s_value_Rank N va b).bind fun rank =>
      some (rank, true)
  else
   bif (va.Kind == 3) then
    (s_real_Versus N b.N va.Bits).bind fun vers3 =>
    some ((IntKind.i64.wrap (0 - vers3.1)), vers3.2)
   else
    bif (b.Kind == 3) then
     (s_real_Versus N va.N b.Bits).bind fun vers4 =>
     some (vers4.1, vers4.2)
    else
     (s_value_Rank N va b).bind fun rank2 =>
     some (rank2, true)
def s_compare_says (N : Nat) (op : Int) (n : Int) : Option Bool :=
  bif (op == 2) then
   some (n != 0)
  else
   bif (op == 4) then
    bif (ltB n 0) then
     some true
    else
     some (n == 0)
   else
    bif (op == 1) then
     some (n == 0)
    else
     bif (op == 3) then
      some (ltB n 0)
     else
      bif (op == 6) then
       bif (n == 0) then
        some true
       else
        some (ltB 0 n)
      else
       bif (op == 5) then
        some (ltB 0 n)
       else
        some false
def s_compare_Holds (N : Nat) (op : Int) (va : value_Value) (b : value_Value) : Option Bool :=
  (s_value_Check N va).bind fun chec =>
  bif (chec != 0) then
   some false
  else
   (s_value_Check N b).bind fun chec2 =>
   bif (chec2 != 0) then
    some false
   else
    bif (va.Kind != b.Kind) then
     (s_compare_numeric N va.Kind).bind fun nume =>
     bif nume then
      (s_compare_numeric N b.Kind).bind fun nume2 =>
      bif (!nume2) then
       some (op == 2)
      else
       bif (va.Kind == 2) then
        bif (op != 1) then
         bif (op != 2) then
          some false
         else
          (s_compare_order N va b).bind fun orde =>
          bif (!orde.2) then
           some (op == 2)
          else
           (s_compare_says N op orde.1).bind fun says =>
           some says
        else
         (s_compare_order N va b).bind fun orde2 =>
         bif (!orde2.2) then
          some (op == 2)
         else
          (s_compare_says N op orde2.1).bind fun says2 =>
          some says2
       else
        (s_compare_order N va b).bind fun orde3 =>
        bif (!orde3.2) then
         some (op == 2)
        else
         (s_compare_says N op orde3.1).bind fun says3 =>
         some says3
     else
      some (op == 2)
    else
     bif (va.Kind == 2) then
      bif (op != 1) then
       bif (op != 2) then
        some false
       else
        (s_compare_order N va b).bind fun orde4 =>
        bif (!orde4.2) then
         some (op == 2)
        else
         (s_compare_says N op orde4.1).bind fun says4 =>
         some says4
      else
       (s_compare_order N va b).bind fun orde5 =>
       bif (!orde5.2) then
        some (op == 2)
       else
        (s_compare_says N op orde5.1).bind fun says5 =>
        some says5
     else
      (s_compare_order N va b).bind fun orde6 =>
      bif (!orde6.2) then
       some (op == 2)
      else
       (s_compare_says N op orde6.1).bind fun says6 =>
       some says6
def s_judge_test_holds_v233_k1 (N : Nat) (t : judge_test) (x : Int) (x2 : Int) (x3 : Int) (x4 : List UInt8) (x5 : Bool) (x6 : Int) (x7 : Int) (x8 : Int) (x9 : List UInt8) (x10 : Bool) (y15 : List schema_Type) (y16 : List bind_Pair) (y17 : Int) (y18 : Int) (y19 : Int) (y20 : List UInt8) (y21 : List value_Value) : Option (Bool × List schema_Type × List bind_Pair × Int × Int × Int × List UInt8 × List value_Value) :=
  bif x5 then
   bif x10 then
    (s_compare_Holds N t.op (value_Value.mk x x2 x3 x4) (value_Value.mk x6 x7 x8 x9)).bind fun hold =>
    some (hold, y15, y16, y17, y18, y19, y20, y21)
   else
    some (false, y15, y16, y17, y18, y19, y20, y21)
  else
   some (false, y15, y16, y17, y18, y19, y20, y21)
def s_judge_test_holds_v233_k0 (N : Nat) (t : judge_test) (x : Int) (x2 : Int) (x3 : Int) (x4 : List UInt8) (x5 : Bool) (y8 : List schema_Type) (y9 : List bind_Pair) (y10 : Int) (y11 : Int) (y12 : Int) (y13 : List UInt8) (y14 : List value_Value) : Option (Bool × List schema_Type × List bind_Pair × Int × Int × Int × List UInt8 × List value_Value) :=
  (match t.b with
  | .lit_ v2 =>
   (s_judge_lit_value_v072 N (judge_lit.mk v2) y8 y9 y10 y11 y12 y13 y14).bind fun valu5 =>
   s_judge_test_holds_v233_k1 N t x x2 x3 x4 x5 valu5.1.Kind valu5.1.N valu5.1.Bits valu5.1.Text valu5.2.1 valu5.2.2.1 valu5.2.2.2.1 valu5.2.2.2.2.1 valu5.2.2.2.2.2.1 valu5.2.2.2.2.2.2.1 valu5.2.2.2.2.2.2.2.1 valu5.2.2.2.2.2.2.2.2
  | .of_ name3 field2 =>
   (s_judge_of_value_v421 N (judge_of.mk name3 field2) y8 y9 y10 y11 y12 y13 y14).bind fun valu6 =>
   s_judge_test_holds_v233_k1 N t x x2 x3 x4 x5 valu6.1.Kind valu6.1.N valu6.1.Bits valu6.1.Text valu6.2.1 valu6.2.2.1 valu6.2.2.2.1 valu6.2.2.2.2.1 valu6.2.2.2.2.2.1 valu6.2.2.2.2.2.2.1 valu6.2.2.2.2.2.2.2.1 valu6.2.2.2.2.2.2.2.2
  | .own_ name4 =>
   (s_judge_own_value_v282 N (judge_own.mk name4) y8 y9 y10 y11 y12 y13 y14).bind fun valu7 =>
   s_judge_test_holds_v233_k1 N t x x2 x3 x4 x5 valu7.1.Kind valu7.1.N valu7.1.Bits valu7.1.Text valu7.2.1 valu7.2.2.1 valu7.2.2.2.1 valu7.2.2.2.2.1 valu7.2.2.2.2.2.1 valu7.2.2.2.2.2.2.1 valu7.2.2.2.2.2.2.2.1 valu7.2.2.2.2.2.2.2.2
  | .sum_ minus2 va2 b2 =>
   (s_judge_sum_value_v486 N (judge_sum.mk minus2 va2 b2) y8 y9 y10 y11 y12 y13 y14).bind fun valu8 =>
   s_judge_test_holds_v233_k1 N t x x2 x3 x4 x5 valu8.1.Kind valu8.1.N valu8.1.Bits valu8.1.Text valu8.2.1 valu8.2.2.1 valu8.2.2.2.1 valu8.2.2.2.2.1 valu8.2.2.2.2.2.1 valu8.2.2.2.2.2.2.1 valu8.2.2.2.2.2.2.2.1 valu8.2.2.2.2.2.2.2.2)
def s_judge_test_holds_v233 (N : Nat) (t : judge_test) (y : List schema_Type) (y2 : List bind_Pair) (y3 : Int) (y4 : Int) (y5 : Int) (y6 : List UInt8) (y7 : List value_Value) : Option (Bool × List schema_Type × List bind_Pair × Int × Int × Int × List UInt8 × List value_Value) :=
  (match t.a with
  | .lit_ v =>
   (s_judge_lit_value_v072 N (judge_lit.mk v) y y2 y3 y4 y5 y6 y7).bind fun valu =>
   s_judge_test_holds_v233_k0 N t valu.1.Kind valu.1.N valu.1.Bits valu.1.Text valu.2.1 valu.2.2.1 valu.2.2.2.1 valu.2.2.2.2.1 valu.2.2.2.2.2.1 valu.2.2.2.2.2.2.1 valu.2.2.2.2.2.2.2.1 valu.2.2.2.2.2.2.2.2
  | .of_ name field =>
   (s_judge_of_value_v421 N (judge_of.mk name field) y y2 y3 y4 y5 y6 y7).bind fun valu2 =>
   s_judge_test_holds_v233_k0 N t valu2.1.Kind valu2.1.N valu2.1.Bits valu2.1.Text valu2.2.1 valu2.2.2.1 valu2.2.2.2.1 valu2.2.2.2.2.1 valu2.2.2.2.2.2.1 valu2.2.2.2.2.2.2.1 valu2.2.2.2.2.2.2.2.1 valu2.2.2.2.2.2.2.2.2
  | .own_ name2 =>
   (s_judge_own_value_v282 N (judge_own.mk name2) y y2 y3 y4 y5 y6 y7).bind fun valu3 =>
   s_judge_test_holds_v233_k0 N t valu3.1.Kind valu3.1.N valu3.1.Bits valu3.1.Text valu3.2.1 valu3.2.2.1 valu3.2.2.2.1 valu3.2.2.2.2.1 valu3.2.2.2.2.2.1 valu3.2.2.2.2.2.2.1 valu3.2.2.2.2.2.2.2.1 valu3.2.2.2.2.2.2.2.2
  | .sum_ minus va b =>
   (s_judge_sum_value_v486 N (judge_sum.mk minus va b) y y2 y3 y4 y5 y6 y7).bind fun valu4 =>
   s_judge_test_holds_v233_k0 N t valu4.1.Kind valu4.1.N valu4.1.Bits valu4.1.Text valu4.2.1 valu4.2.2.1 valu4.2.2.2.1 valu4.2.2.2.2.1 valu4.2.2.2.2.2.1 valu4.2.2.2.2.2.2.1 valu4.2.2.2.2.2.2.2.1 valu4.2.2.2.2.2.2.2.2)
abbrev TS_judge_and_holds_v355 : Type := (judge_and → (List schema_Type) → (List bind_Pair) → Int → Int → Int → (List UInt8) → (List value_Value) → Option (Bool × List schema_Type × List bind_Pair × Int × Int × Int × List UInt8 × List value_Value)) × (judge_not → (List schema_Type) → (List bind_Pair) → Int → Int → Int → (List UInt8) → (List value_Value) → Option (Bool × List schema_Type × List bind_Pair × Int × Int × Int × List UInt8 × List value_Value)) × (judge_and → (List schema_Type) → (List bind_Pair) → Int → Int → Int → (List UInt8) → (List value_Value) → Option (Bool × List schema_Type × List bind_Pair × Int × Int × Int × List UInt8 × List value_Value))
def b_judge_and_holds_v355 (N : Nat) (p : TS_judge_and_holds_v355) (t : judge_and) (y : List schema_Type) (y2 : List bind_Pair) (y3 : Int) (y4 : Int) (y5 : Int) (y6 : List UInt8) (y7 : List value_Value) : Option (Bool × List schema_Type × List bind_Pair × Int × Int × Int × List UInt8 × List value_Value) :=
  (match t.a with
  | .and_ va b =>
   (p.1 (judge_and.mk va b) y y2 y3 y4 y5 y6 y7).bind fun hold =>
   bif hold.1 then
    (match t.b with
    | .and_ va2 b2 =>
     (p.1 (judge_and.mk va2 b2) hold.2.1 hold.2.2.1 hold.2.2.2.1 hold.2.2.2.2.1 hold.2.2.2.2.2.1 hold.2.2.2.2.2.2.1 hold.2.2.2.2.2.2.2).bind fun hold2 =>
     some (hold2.1, hold2.2.1, hold2.2.2.1, hold2.2.2.2.1, hold2.2.2.2.2.1, hold2.2.2.2.2.2.1, hold2.2.2.2.2.2.2.1, hold2.2.2.2.2.2.2.2)
    | .not_ va3 =>
     (p.2.1 (judge_not.mk va3) hold.2.1 hold.2.2.1 hold.2.2.2.1 hold.2.2.2.2.1 hold.2.2.2.2.2.1 hold.2.2.2.2.2.2.1 hold.2.2.2.2.2.2.2).bind fun hold3 =>
     some (hold3.1, hold3.2.1, hold3.2.2.1, hold3.2.2.2.1, hold3.2.2.2.2.1, hold3.2.2.2.2.2.1, hold3.2.2.2.2.2.2.1, hold3.2.2.2.2.2.2.2)
    | .or_ va4 b3 =>
     (p.2.2 (judge_and.mk va4 b3) hold.2.1 hold.2.2.1 hold.2.2.2.1 hold.2.2.2.2.1 hold.2.2.2.2.2.1 hold.2.2.2.2.2.2.1 hold.2.2.2.2.2.2.2).bind fun hold4 =>
     some (hold4.1, hold4.2.1, hold4.2.2.1, hold4.2.2.2.1, hold4.2.2.2.2.1, hold4.2.2.2.2.2.1, hold4.2.2.2.2.2.2.1, hold4.2.2.2.2.2.2.2)
    | .test_ op va5 b4 =>
     (s_judge_test_holds_v233 N (judge_test.mk op va5 b4) hold.2.1 hold.2.2.1 hold.2.2.2.1 hold.2.2.2.2.1 hold.2.2.2.2.2.1 hold.2.2.2.2.2.2.1 hold.2.2.2.2.2.2.2).bind fun hold5 =>
     some (hold5.1, hold5.2.1, hold5.2.2.1, hold5.2.2.2.1, hold5.2.2.2.2.1, hold5.2.2.2.2.2.1, hold5.2.2.2.2.2.2.1, hold5.2.2.2.2.2.2.2))
   else
    some (false, hold.2.1, hold.2.2.1, hold.2.2.2.1, hold.2.2.2.2.1, hold.2.2.2.2.2.1, hold.2.2.2.2.2.2.1, hold.2.2.2.2.2.2.2)
  | .not_ va6 =>
   (p.2.1 (judge_not.mk va6) y y2 y3 y4 y5 y6 y7).bind fun hold6 =>
   bif hold6.1 then
    (match t.b with
    | .and_ va7 b5 =>
     (p.1 (judge_and.mk va7 b5) hold6.2.1 hold6.2.2.1 hold6.2.2.2.1 hold6.2.2.2.2.1 hold6.2.2.2.2.2.1 hold6.2.2.2.2.2.2.1 hold6.2.2.2.2.2.2.2).bind fun hold7 =>
     some (hold7.1, hold7.2.1, hold7.2.2.1, hold7.2.2.2.1, hold7.2.2.2.2.1, hold7.2.2.2.2.2.1, hold7.2.2.2.2.2.2.1, hold7.2.2.2.2.2.2.2)
    | .not_ va8 =>
     (p.2.1 (judge_not.mk va8) hold6.2.1 hold6.2.2.1 hold6.2.2.2.1 hold6.2.2.2.2.1 hold6.2.2.2.2.2.1 hold6.2.2.2.2.2.2.1 hold6.2.2.2.2.2.2.2).bind fun hold8 =>
     some (hold8.1, hold8.2.1, hold8.2.2.1, hold8.2.2.2.1, hold8.2.2.2.2.1, hold8.2.2.2.2.2.1, hold8.2.2.2.2.2.2.1, hold8.2.2.2.2.2.2.2)
    | .or_ va9 b6 =>
     (p.2.2 (judge_and.mk va9 b6) hold6.2.1 hold6.2.2.1 hold6.2.2.2.1 hold6.2.2.2.2.1 hold6.2.2.2.2.2.1 hold6.2.2.2.2.2.2.1 hold6.2.2.2.2.2.2.2).bind fun hold9 =>
     some (hold9.1, hold9.2.1, hold9.2.2.1, hold9.2.2.2.1, hold9.2.2.2.2.1, hold9.2.2.2.2.2.1, hold9.2.2.2.2.2.2.1, hold9.2.2.2.2.2.2.2)
    | .test_ op2 va10 b7 =>
     (s_judge_test_holds_v233 N (judge_test.mk op2 va10 b7) hold6.2.1 hold6.2.2.1 hold6.2.2.2.1 hold6.2.2.2.2.1 hold6.2.2.2.2.2.1 hold6.2.2.2.2.2.2.1 hold6.2.2.2.2.2.2.2).bind fun hold10 =>
     some (hold10.1, hold10.2.1, hold10.2.2.1, hold10.2.2.2.1, hold10.2.2.2.2.1, hold10.2.2.2.2.2.1, hold10.2.2.2.2.2.2.1, hold10.2.2.2.2.2.2.2))
   else
    some (false, hold6.2.1, hold6.2.2.1, hold6.2.2.2.1, hold6.2.2.2.2.1, hold6.2.2.2.2.2.1, hold6.2.2.2.2.2.2.1, hold6.2.2.2.2.2.2.2)
  | .or_ va11 b8 =>
   (p.2.2 (judge_and.mk va11 b8) y y2 y3 y4 y5 y6 y7).bind fun hold11 =>
   bif hold11.1 then
    (match t.b with
    | .and_ va12 b9 =>
     (p.1 (judge_and.mk va12 b9) hold11.2.1 hold11.2.2.1 hold11.2.2.2.1 hold11.2.2.2.2.1 hold11.2.2.2.2.2.1 hold11.2.2.2.2.2.2.1 hold11.2.2.2.2.2.2.2).bind fun hold12 =>
     some (hold12.1, hold12.2.1, hold12.2.2.1, hold12.2.2.2.1, hold12.2.2.2.2.1, hold12.2.2.2.2.2.1, hold12.2.2.2.2.2.2.1, hold12.2.2.2.2.2.2.2)
    | .not_ va13 =>
     (p.2.1 (judge_not.mk va13) hold11.2.1 hold11.2.2.1 hold11.2.2.2.1 hold11.2.2.2.2.1 hold11.2.2.2.2.2.1 hold11.2.2.2.2.2.2.1 hold11.2.2.2.2.2.2.2).bind fun hold13 =>
     some (hold13.1, hold13.2.1, hold13.2.2.1, hold13.2.2.2.1, hold13.2.2.2.2.1, hold13.2.2.2.2.2.1, hold13.2.2.2.2.2.2.1, hold13.2.2.2.2.2.2.2)
    | .or_ va14 b10 =>
     (p.2.2 (judge_and.mk va14 b10) hold11.2.1 hold11.2.2.1 hold11.2.2.2.1 hold11.2.2.2.2.1 hold11.2.2.2.2.2.1 hold11.2.2.2.2.2.2.1 hold11.2.2.2.2.2.2.2).bind fun hold14 =>
     some (hold14.1, hold14.2.1, hold14.2.2.1, hold14.2.2.2.1, hold14.2.2.2.2.1, hold14.2.2.2.2.2.1, hold14.2.2.2.2.2.2.1, hold14.2.2.2.2.2.2.2)
    | .test_ op3 va15 b11 =>
     (s_judge_test_holds_v233 N (judge_test.mk op3 va15 b11) hold11.2.1 hold11.2.2.1 hold11.2.2.2.1 hold11.2.2.2.2.1 hold11.2.2.2.2.2.1 hold11.2.2.2.2.2.2.1 hold11.2.2.2.2.2.2.2).bind fun hold15 =>
     some (hold15.1, hold15.2.1, hold15.2.2.1, hold15.2.2.2.1, hold15.2.2.2.2.1, hold15.2.2.2.2.2.1, hold15.2.2.2.2.2.2.1, hold15.2.2.2.2.2.2.2))
   else
    some (false, hold11.2.1, hold11.2.2.1, hold11.2.2.2.1, hold11.2.2.2.2.1, hold11.2.2.2.2.2.1, hold11.2.2.2.2.2.2.1, hold11.2.2.2.2.2.2.2)
  | .test_ op4 va16 b12 =>
   (s_judge_test_holds_v233 N (judge_test.mk op4 va16 b12) y y2 y3 y4 y5 y6 y7).bind fun hold16 =>
   bif hold16.1 then
    (match t.b with
    | .and_ va17 b13 =>
     (p.1 (judge_and.mk va17 b13) hold16.2.1 hold16.2.2.1 hold16.2.2.2.1 hold16.2.2.2.2.1 hold16.2.2.2.2.2.1 hold16.2.2.2.2.2.2.1 hold16.2.2.2.2.2.2.2).bind fun hold17 =>
     some (hold17.1, hold17.2.1, hold17.2.2.1, hold17.2.2.2.1, hold17.2.2.2.2.1, hold17.2.2.2.2.2.1, hold17.2.2.2.2.2.2.1, hold17.2.2.2.2.2.2.2)
    | .not_ va18 =>
     (p.2.1 (judge_not.mk va18) hold16.2.1 hold16.2.2.1 hold16.2.2.2.1 hold16.2.2.2.2.1 hold16.2.2.2.2.2.1 hold16.2.2.2.2.2.2.1 hold16.2.2.2.2.2.2.2).bind fun hold18 =>
     some (hold18.1, hold18.2.1, hold18.2.2.1, hold18.2.2.2.1, hold18.2.2.2.2.1, hold18.2.2.2.2.2.1, hold18.2.2.2.2.2.2.1, hold18.2.2.2.2.2.2.2)
    | .or_ va19 b14 =>
     (p.2.2 (judge_and.mk va19 b14) hold16.2.1 hold16.2.2.1 hold16.2.2.2.1 hold16.2.2.2.2.1 hold16.2.2.2.2.2.1 hold16.2.2.2.2.2.2.1 hold16.2.2.2.2.2.2.2).bind fun hold19 =>
     some (hold19.1, hold19.2.1, hold19.2.2.1, hold19.2.2.2.1, hold19.2.2.2.2.1, hold19.2.2.2.2.2.1, hold19.2.2.2.2.2.2.1, hold19.2.2.2.2.2.2.2)
    | .test_ op5 va20 b15 =>
     (s_judge_test_holds_v233 N (judge_test.mk op5 va20 b15) hold16.2.1 hold16.2.2.1 hold16.2.2.2.1 hold16.2.2.2.2.1 hold16.2.2.2.2.2.1 hold16.2.2.2.2.2.2.1 hold16.2.2.2.2.2.2.2).bind fun hold20 =>
     some (hold20.1, hold20.2.1, hold20.2.2.1, hold20.2.2.2.1, hold20.2.2.2.2.1, hold20.2.2.2.2.2.1, hold20.2.2.2.2.2.2.1, hold20.2.2.2.2.2.2.2))
   else
    some (false, hold16.2.1, hold16.2.2.1, hold16.2.2.2.1, hold16.2.2.2.2.1, hold16.2.2.2.2.2.1, hold16.2.2.2.2.2.2.1, hold16.2.2.2.2.2.2.2))
def b_judge_not_holds_v301 (N : Nat) (p : TS_judge_and_holds_v355) (t : judge_not) (y : List schema_Type) (y2 : List bind_Pair) (y3 : Int) (y4 : Int) (y5 : Int) (y6 : List UInt8) (y7 : List value_Value) : Option (Bool × List schema_Type × List bind_Pair × Int × Int × Int × List UInt8 × List value_Value) :=
  (match t.a with
  | .and_ va b =>
   (p.1 (judge_and.mk va b) y y2 y3 y4 y5 y6 y7).bind fun hold =>
   some ((!hold.1), hold.2.1, hold.2.2.1, hold.2.2.2.1, hold.2.2.2.2.1, hold.2.2.2.2.2.1, hold.2.2.2.2.2.2.1, hold.2.2.2.2.2.2.2)
  | .not_ va2 =>
   (p.2.1 (judge_not.mk va2) y y2 y3 y4 y5 y6 y7).bind fun hold2 =>
   some ((!hold2.1), hold2.2.1, hold2.2.2.1, hold2.2.2.2.1, hold2.2.2.2.2.1, hold2.2.2.2.2.2.1, hold2.2.2.2.2.2.2.1, hold2.2.2.2.2.2.2.2)
  | .or_ va3 b2 =>
   (p.2.2 (judge_and.mk va3 b2) y y2 y3 y4 y5 y6 y7).bind fun hold3 =>
   some ((!hold3.1), hold3.2.1, hold3.2.2.1, hold3.2.2.2.1, hold3.2.2.2.2.1, hold3.2.2.2.2.2.1, hold3.2.2.2.2.2.2.1, hold3.2.2.2.2.2.2.2)
  | .test_ op va4 b3 =>
   (s_judge_test_holds_v233 N (judge_test.mk op va4 b3) y y2 y3 y4 y5 y6 y7).bind fun hold4 =>
   some ((!hold4.1), hold4.2.1, hold4.2.2.1, hold4.2.2.2.1, hold4.2.2.2.2.1, hold4.2.2.2.2.2.1, hold4.2.2.2.2.2.2.1, hold4.2.2.2.2.2.2.2))
def b_judge_or_holds_v355 (N : Nat) (p : TS_judge_and_holds_v355) (t : judge_and) (y : List schema_Type) (y2 : List bind_Pair) (y3 : Int) (y4 : Int) (y5 : Int) (y6 : List UInt8) (y7 : List value_Value) : Option (Bool × List schema_Type × List bind_Pair × Int × Int × Int × List UInt8 × List value_Value) :=
  (match t.a with
  | .and_ va b =>
   (p.1 (judge_and.mk va b) y y2 y3 y4 y5 y6 y7).bind fun hold =>
   bif hold.1 then
    some (true, hold.2.1, hold.2.2.1, hold.2.2.2.1, hold.2.2.2.2.1, hold.2.2.2.2.2.1, hold.2.2.2.2.2.2.1, hold.2.2.2.2.2.2.2)
   else
    (match t.b with
    | .and_ va2 b2 =>
     (p.1 (judge_and.mk va2 b2) hold.2.1 hold.2.2.1 hold.2.2.2.1 hold.2.2.2.2.1 hold.2.2.2.2.2.1 hold.2.2.2.2.2.2.1 hold.2.2.2.2.2.2.2).bind fun hold2 =>
     some (hold2.1, hold2.2.1, hold2.2.2.1, hold2.2.2.2.1, hold2.2.2.2.2.1, hold2.2.2.2.2.2.1, hold2.2.2.2.2.2.2.1, hold2.2.2.2.2.2.2.2)
    | .not_ va3 =>
     (p.2.1 (judge_not.mk va3) hold.2.1 hold.2.2.1 hold.2.2.2.1 hold.2.2.2.2.1 hold.2.2.2.2.2.1 hold.2.2.2.2.2.2.1 hold.2.2.2.2.2.2.2).bind fun hold3 =>
     some (hold3.1, hold3.2.1, hold3.2.2.1, hold3.2.2.2.1, hold3.2.2.2.2.1, hold3.2.2.2.2.2.1, hold3.2.2.2.2.2.2.1, hold3.2.2.2.2.2.2.2)
    | .or_ va4 b3 =>
     (p.2.2 (judge_and.mk va4 b3) hold.2.1 hold.2.2.1 hold.2.2.2.1 hold.2.2.2.2.1 hold.2.2.2.2.2.1 hold.2.2.2.2.2.2.1 hold.2.2.2.2.2.2.2).bind fun hold4 =>
     some (hold4.1, hold4.2.1, hold4.2.2.1, hold4.2.2.2.1, hold4.2.2.2.2.1, hold4.2.2.2.2.2.1, hold4.2.2.2.2.2.2.1, hold4.2.2.2.2.2.2.2)
    | .test_ op va5 b4 =>
     (s_judge_test_holds_v233 N (judge_test.mk op va5 b4) hold.2.1 hold.2.2.1 hold.2.2.2.1 hold.2.2.2.2.1 hold.2.2.2.2.2.1 hold.2.2.2.2.2.2.1 hold.2.2.2.2.2.2.2).bind fun hold5 =>
     some (hold5.1, hold5.2.1, hold5.2.2.1, hold5.2.2.2.1, hold5.2.2.2.2.1, hold5.2.2.2.2.2.1, hold5.2.2.2.2.2.2.1, hold5.2.2.2.2.2.2.2))
  | .not_ va6 =>
   (p.2.1 (judge_not.mk va6) y y2 y3 y4 y5 y6 y7).bind fun hold6 =>
   bif hold6.1 then
    some (true, hold6.2.1, hold6.2.2.1, hold6.2.2.2.1, hold6.2.2.2.2.1, hold6.2.2.2.2.2.1, hold6.2.2.2.2.2.2.1, hold6.2.2.2.2.2.2.2)
   else
    (match t.b with
    | .and_ va7 b5 =>
     (p.1 (judge_and.mk va7 b5) hold6.2.1 hold6.2.2.1 hold6.2.2.2.1 hold6.2.2.2.2.1 hold6.2.2.2.2.2.1 hold6.2.2.2.2.2.2.1 hold6.2.2.2.2.2.2.2).bind fun hold7 =>
     some (hold7.1, hold7.2.1, hold7.2.2.1, hold7.2.2.2.1, hold7.2.2.2.2.1, hold7.2.2.2.2.2.1, hold7.2.2.2.2.2.2.1, hold7.2.2.2.2.2.2.2)
    | .not_ va8 =>
     (p.2.1 (judge_not.mk va8) hold6.2.1 hold6.2.2.1 hold6.2.2.2.1 hold6.2.2.2.2.1 hold6.2.2.2.2.2.1 hold6.2.2.2.2.2.2.1 hold6.2.2.2.2.2.2.2).bind fun hold8 =>
     some (hold8.1, hold8.2.1, hold8.2.2.1, hold8.2.2.2.1, hold8.2.2.2.2.1, hold8.2.2.2.2.2.1, hold8.2.2.2.2.2.2.1, hold8.2.2.2.2.2.2.2)
    | .or_ va9 b6 =>
     (p.2.2 (judge_and.mk va9 b6) hold6.2.1 hold6.2.2.1 hold6.2.2.2.1 hold6.2.2.2.2.1 hold6.2.2.2.2.2.1 hold6.2.2.2.2.2.2.1 hold6.2.2.2.2.2.2.2).bind fun hold9 =>
     some (hold9.1, hold9.2.1, hold9.2.2.1, hold9.2.2.2.1, hold9.2.2.2.2.1, hold9.2.2.2.2.2.1, hold9.2.2.2.2.2.2.1, hold9.2.2.2.2.2.2.2)
    | .test_ op2 va10 b7 =>
     (s_judge_test_holds_v233 N (judge_test.mk op2 va10 b7) hold6.2.1 hold6.2.2.1 hold6.2.2.2.1 hold6.2.2.2.2.1 hold6.2.2.2.2.2.1 hold6.2.2.2.2.2.2.1 hold6.2.2.2.2.2.2.2).bind fun hold10 =>
     some (hold10.1, hold10.2.1, hold10.2.2.1, hold10.2.2.2.1, hold10.2.2.2.2.1, hold10.2.2.2.2.2.1, hold10.2.2.2.2.2.2.1, hold10.2.2.2.2.2.2.2))
  | .or_ va11 b8 =>
   (p.2.2 (judge_and.mk va11 b8) y y2 y3 y4 y5 y6 y7).bind fun hold11 =>
   bif hold11.1 then
    some (true, hold11.2.1, hold11.2.2.1, hold11.2.2.2.1, hold11.2.2.2.2.1, hold11.2.2.2.2.2.1, hold11.2.2.2.2.2.2.1, hold11.2.2.2.2.2.2.2)
   else
    (match t.b with
    | .and_ va12 b9 =>
     (p.1 (judge_and.mk va12 b9) hold11.2.1 hold11.2.2.1 hold11.2.2.2.1 hold11.2.2.2.2.1 hold11.2.2.2.2.2.1 hold11.2.2.2.2.2.2.1 hold11.2.2.2.2.2.2.2).bind fun hold12 =>
     some (hold12.1, hold12.2.1, hold12.2.2.1, hold12.2.2.2.1, hold12.2.2.2.2.1, hold12.2.2.2.2.2.1, hold12.2.2.2.2.2.2.1, hold12.2.2.2.2.2.2.2)
    | .not_ va13 =>
     (p.2.1 (judge_not.mk va13) hold11.2.1 hold11.2.2.1 hold11.2.2.2.1 hold11.2.2.2.2.1 hold11.2.2.2.2.2.1 hold11.2.2.2.2.2.2.1 hold11.2.2.2.2.2.2.2).bind fun hold13 =>
     some (hold13.1, hold13.2.1, hold13.2.2.1, hold13.2.2.2.1, hold13.2.2.2.2.1, hold13.2.2.2.2.2.1, hold13.2.2.2.2.2.2.1, hold13.2.2.2.2.2.2.2)
    | .or_ va14 b10 =>
     (p.2.2 (judge_and.mk va14 b10) hold11.2.1 hold11.2.2.1 hold11.2.2.2.1 hold11.2.2.2.2.1 hold11.2.2.2.2.2.1 hold11.2.2.2.2.2.2.1 hold11.2.2.2.2.2.2.2).bind fun hold14 =>
     some (hold14.1, hold14.2.1, hold14.2.2.1, hold14.2.2.2.1, hold14.2.2.2.2.1, hold14.2.2.2.2.2.1, hold14.2.2.2.2.2.2.1, hold14.2.2.2.2.2.2.2)
    | .test_ op3 va15 b11 =>
     (s_judge_test_holds_v233 N (judge_test.mk op3 va15 b11) hold11.2.1 hold11.2.2.1 hold11.2.2.2.1 hold11.2.2.2.2.1 hold11.2.2.2.2.2.1 hold11.2.2.2.2.2.2.1 hold11.2.2.2.2.2.2.2).bind fun hold15 =>
     some (hold15.1, hold15.2.1, hold15.2.2.1, hold15.2.2.2.1, hold15.2.2.2.2.1, hold15.2.2.2.2.2.1, hold15.2.2.2.2.2.2.1, hold15.2.2.2.2.2.2.2))
  | .test_ op4 va16 b12 =>
   (s_judge_test_holds_v233 N (judge_test.mk op4 va16 b12) y y2 y3 y4 y5 y6 y7).bind fun hold16 =>
   bif hold16.1 then
    some (true, hold16.2.1, hold16.2.2.1, hold16.2.2.2.1, hold16.2.2.2.2.1, hold16.2.2.2.2.2.1, hold16.2.2.2.2.2.2.1, hold16.2.2.2.2.2.2.2)
   else
    (match t.b with
    | .and_ va17 b13 =>
     (p.1 (judge_and.mk va17 b13) hold16.2.1 hold16.2.2.1 hold16.2.2.2.1 hold16.2.2.2.2.1 hold16.2.2.2.2.2.1 hold16.2.2.2.2.2.2.1 hold16.2.2.2.2.2.2.2).bind fun hold17 =>
     some (hold17.1, hold17.2.1, hold17.2.2.1, hold17.2.2.2.1, hold17.2.2.2.2.1, hold17.2.2.2.2.2.1, hold17.2.2.2.2.2.2.1, hold17.2.2.2.2.2.2.2)
    | .not_ va18 =>
     (p.2.1 (judge_not.mk va18) hold16.2.1 hold16.2.2.1 hold16.2.2.2.1 hold16.2.2.2.2.1 hold16.2.2.2.2.2.1 hold16.2.2.2.2.2.2.1 hold16.2.2.2.2.2.2.2).bind fun hold18 =>
     some (hold18.1, hold18.2.1, hold18.2.2.1, hold18.2.2.2.1, hold18.2.2.2.2.1, hold18.2.2.2.2.2.1, hold18.2.2.2.2.2.2.1, hold18.2.2.2.2.2.2.2)
    | .or_ va19 b14 =>
     (p.2.2 (judge_and.mk va19 b14) hold16.2.1 hold16.2.2.1 hold16.2.2.2.1 hold16.2.2.2.2.1 hold16.2.2.2.2.2.1 hold16.2.2.2.2.2.2.1 hold16.2.2.2.2.2.2.2).bind fun hold19 =>
     some (hold19.1, hold19.2.1, hold19.2.2.1, hold19.2.2.2.1, hold19.2.2.2.2.1, hold19.2.2.2.2.2.1, hold19.2.2.2.2.2.2.1, hold19.2.2.2.2.2.2.2)
    | .test_ op5 va20 b15 =>
     (s_judge_test_holds_v233 N (judge_test.mk op5 va20 b15) hold16.2.1 hold16.2.2.1 hold16.2.2.2.1 hold16.2.2.2.2.1 hold16.2.2.2.2.2.1 hold16.2.2.2.2.2.2.1 hold16.2.2.2.2.2.2.2).bind fun hold20 =>
     some (hold20.1, hold20.2.1, hold20.2.2.1, hold20.2.2.2.1, hold20.2.2.2.2.1, hold20.2.2.2.2.2.1, hold20.2.2.2.2.2.2.1, hold20.2.2.2.2.2.2.2)))
def SS_judge_and_holds_v355 (N : Nat) : TS_judge_and_holds_v355 := Nat.rec (motive := fun _ => TS_judge_and_holds_v355) ((fun _ _ _ _ _ _ _ _ => none), (fun _ _ _ _ _ _ _ _ => none), (fun _ _ _ _ _ _ _ _ => none)) (fun N p => ((b_judge_and_holds_v355 N p), (b_judge_not_holds_v301 N p), (b_judge_or_holds_v355 N p))) N
def s_judge_and_holds_v355 (N : Nat) (t : judge_and) (y : List schema_Type) (y2 : List bind_Pair) (y3 : Int) (y4 : Int) (y5 : Int) (y6 : List UInt8) (y7 : List value_Value) : Option (Bool × List schema_Type × List bind_Pair × Int × Int × Int × List UInt8 × List value_Value) := (SS_judge_and_holds_v355 N).1 t y y2 y3 y4 y5 y6 y7
def s_judge_not_holds_v301 (N : Nat) (t : judge_not) (y : List schema_Type) (y2 : List bind_Pair) (y3 : Int) (y4 : Int) (y5 : Int) (y6 : List UInt8) (y7 : List value_Value) : Option (Bool × List schema_Type × List bind_Pair × Int × Int × Int × List UInt8 × List value_Value) := (SS_judge_and_holds_v355 N).2.1 t y y2 y3 y4 y5 y6 y7
def s_judge_or_holds_v355 (N : Nat) (t : judge_and) (y : List schema_Type) (y2 : List bind_Pair) (y3 : Int) (y4 : Int) (y5 : Int) (y6 : List UInt8) (y7 : List value_Value) : Option (Bool × List schema_Type × List bind_Pair × Int × Int × Int × List UInt8 × List value_Value) := (SS_judge_and_holds_v355 N).2.2 t y y2 y3 y4 y5 y6 y7
def s_judge_Holds (N : Nat) (l : List pred_Node) (types : List schema_Type) (bound : List bind_Pair) (e : event_Event) : Option Bool :=
  (s_pred_Check N l).bind fun chec =>
  bif (chec != 0) then
   some false
  else
   bif ((List.length l : Int) == 0) then
    some true
   else
    bothN EqR.cls 2 (
     (s_judge_reader_truth_v501 N l 0).bind fun trut =>
     (match trut.1 with
     | .and_ va b =>
      (s_judge_and_holds_v355 N (judge_and.mk va b) types bound e.Time e.Source e.Seq e.Type_ e.Vals).bind fun hold =>
      some hold.1
     | .not_ va2 =>
      (s_judge_not_holds_v301 N (judge_not.mk va2) types bound e.Time e.Source e.Seq e.Type_ e.Vals).bind fun hold2 =>
      some hold2.1
     | .or_ va3 b2 =>
      (s_judge_or_holds_v355 N (judge_and.mk va3 b2) types bound e.Time e.Source e.Seq e.Type_ e.Vals).bind fun hold3 =>
      some hold3.1
     | .test_ op va4 b3 =>
      (s_judge_test_holds_v233 N (judge_test.mk op va4 b3) types bound e.Time e.Source e.Seq e.Type_ e.Vals).bind fun hold4 =>
      some hold4.1))
def s_law20_JudgeAhead_2 (N : Nat) (k : Int) (own : List pred_Node) (own2 : List schema_Type) (named : Bool) (y2 : List bind_Pair) (y8 : Int) (y9 : Int) (y10 : Int) (y11 : List UInt8) (y12 : List value_Value) (pair : List bind_Pair) (next2 : Bool → Int → Option Bool) (last : Bool) (i2 : Int) : Option Bool :=
  bif (ltB i2 (List.length pair : Int)) then
   bif last then
    (ix pair i2).bind fun e4 =>
    (ix pair i2).bind fun e5 =>
    (ix pair k).bind fun e6 =>
    (ix pair k).bind fun e7 =>
    gd (i64b (i2 + 1)) (
    next2 (!(e5.Var == e7.Var)) (i2 + 1))
   else
    gd (i64b (i2 + 1)) (
    next2 false (i2 + 1))
  else
   bif named then
    bif last then
     (s_law20_awake N).bind fun awak6 =>
     some awak6
    else
     both EqR.cls (
      gd (leB 0 k) (
      gd (leB k (List.length y2 : Int)) (
      (s_law19_Pairs_own N (List.take (Int.toNat k) y2)).bind fun pair2 =>
      gd (i64b (k + 1)) (
      gd (leB 0 (k + 1)) (
      gd (leB (k + 1) (List.length y2 : Int)) (
      (s_law19_Pairs_own N (List.drop (Int.toNat (k + 1)) y2)).bind fun pair3 =>
      gd (Nat.ble ((List.length pair2 + List.length pair3) * 80) 140737488355328) (
      bothN EqR.cls 1 (
       (s_judge_Holds N own own2 pair (event_Event.mk y8 y9 y10 y11 y12)).bind fun hold =>
       (s_judge_Holds N own own2 (pair2 ++ pair3) (event_Event.mk y8 y9 y10 y11 y12)).bind fun hold2 =>
       bif (hold == hold2) then
        (s_law20_awake N).bind fun awak7 =>
        some awak7
       else
        some false)))))))) (
     both EqR.cls (
      gd (leB 0 k) (
      gd (leB k (List.length y2 : Int)) (
      (s_law19_Pairs_own N (List.take (Int.toNat k) y2)).bind fun pair4 =>
      gd (i64b (k + 1)) (
      gd (leB 0 (k + 1)) (
      gd (leB (k + 1) (List.length y2 : Int)) (
      (s_law19_Pairs_own N (List.drop (Int.toNat (k + 1)) y2)).bind fun pair5 =>
      gd (Nat.ble ((List.length pair4 + List.length pair5) * 80) 140737488355328) (
      bothN EqR.cls 1 (
       (s_judge_Holds N own own2 pair (event_Event.mk y8 y9 y10 y11 y12)).bind fun hold5 =>
       (s_judge_Holds N own own2 (pair4 ++ pair5) (event_Event.mk y8 y9 y10 y11 y12)).bind fun hold6 =>
       bif (hold5 == hold6) then
        (s_law20_awake N).bind fun awak9 =>
        some awak9
       else
        some false)))))))) (
      gd (leB 0 k) (
      gd (leB k (List.length y2 : Int)) (
      gd (i64b (k + 1)) (
      gd (leB 0 (k + 1)) (
      gd (leB (k + 1) (List.length y2 : Int)) (
      (s_law19_Pairs_own N (List.take (Int.toNat k) y2)).bind fun pair6 =>
      (s_law19_Pairs_own N (List.drop (Int.toNat (k + 1)) y2)).bind fun pair7 =>
      gd (Nat.ble ((List.length pair6 + List.length pair7) * 80) 140737488355328) (
      bothN EqR.cls 1 (
       (s_judge_Holds N own own2 pair (event_Event.mk y8 y9 y10 y11 y12)).bind fun hold9 =>
       (s_judge_Holds N own own2 (pair6 ++ pair7) (event_Event.mk y8 y9 y10 y11 y12)).bind fun hold10 =>
       bif (hold9 == hold10) then
        (s_law20_awake N).bind fun awak11 =>
        some awak11
       else
        some false)))))))))
   else
    both EqR.cls (
     gd (leB 0 k) (
     gd (leB k (List.length y2 : Int)) (
     (s_law19_Pairs_own N (List.take (Int.toNat k) y2)).bind fun pair8 =>
     gd (i64b (k + 1)) (
     gd (leB 0 (k + 1)) (
     gd (leB (k + 1) (List.length y2 : Int)) (
     (s_law19_Pairs_own N (List.drop (Int.toNat (k + 1)) y2)).bind fun pair9 =>
     gd (Nat.ble ((List.length pair8 + List.length pair9) * 80) 140737488355328) (
     bothN EqR.cls 1 (
      (s_judge_Holds N own own2 pair (event_Event.mk y8 y9 y10 y11 y12)).bind fun hold13 =>
      (s_judge_Holds N own own2 (pair8 ++ pair9) (event_Event.mk y8 y9 y10 y11 y12)).bind fun hold14 =>
      bif (hold13 == hold14) then
       (s_law20_awake N).bind fun awak13 =>
       some awak13
      else
       some false)))))))) (
    both EqR.cls (
     gd (leB 0 k) (
     gd (leB k (List.length y2 : Int)) (
     (s_law19_Pairs_own N (List.take (Int.toNat k) y2)).bind fun pair10 =>
     gd (i64b (k + 1)) (
     gd (leB 0 (k + 1)) (
     gd (leB (k + 1) (List.length y2 : Int)) (
     (s_law19_Pairs_own N (List.drop (Int.toNat (k + 1)) y2)).bind fun pair11 =>
     gd (Nat.ble ((List.length pair10 + List.length pair11) * 80) 140737488355328) (
     bothN EqR.cls 1 (
      (s_judge_Holds N own own2 pair (event_Event.mk y8 y9 y10 y11 y12)).bind fun hold17 =>
      (s_judge_Holds N own own2 (pair10 ++ pair11) (event_Event.mk y8 y9 y10 y11 y12)).bind fun hold18 =>
      bif (hold17 == hold18) then
       (s_law20_awake N).bind fun awak15 =>
       some awak15
      else
       some false)))))))) (
     gd (leB 0 k) (
     gd (leB k (List.length y2 : Int)) (
     gd (i64b (k + 1)) (
     gd (leB 0 (k + 1)) (
     gd (leB (k + 1) (List.length y2 : Int)) (
     (s_law19_Pairs_own N (List.take (Int.toNat k) y2)).bind fun pair12 =>
     (s_law19_Pairs_own N (List.drop (Int.toNat (k + 1)) y2)).bind fun pair13 =>
     gd (Nat.ble ((List.length pair12 + List.length pair13) * 80) 140737488355328) (
     bothN EqR.cls 1 (
      (s_judge_Holds N own own2 pair (event_Event.mk y8 y9 y10 y11 y12)).bind fun hold21 =>
      (s_judge_Holds N own own2 (pair12 ++ pair13) (event_Event.mk y8 y9 y10 y11 y12)).bind fun hold22 =>
      bif (hold21 == hold22) then
       (s_law20_awake N).bind fun awak17 =>
       some awak17
      else
       some false)))))))))
def s_law20_JudgeAhead_1 (N : Nat) (k : Int) (own : List pred_Node) (own2 : List schema_Type) (vars : List (List UInt8)) (y2 : List bind_Pair) (y8 : Int) (y9 : Int) (y10 : Int) (y11 : List UInt8) (y12 : List value_Value) (pair : List bind_Pair) (next0 : Bool → Int → Option Bool) (named : Bool) (i : Int) : Option Bool :=
  bif (ltB i (List.length vars : Int)) then
   bif named then
    gd (i64b (i + 1)) (
    next0 true (i + 1))
   else
    (ix vars i).bind fun e =>
    (ix pair k).bind fun e2 =>
    (ix pair k).bind fun e3 =>
    gd (i64b (i + 1)) (
    next0 (e == e3.Var) (i + 1))
  else
   gd (i64b (k + 1)) (
   lp2 (s_law20_JudgeAhead_2 N k own own2 named y2 y8 y9 y10 y11 y12 pair) N true (k + 1))
def s_law20_JudgeAhead (N : Nat) (l : List pred_Node) (s : ref20_Scene) (k : Int) : Option Bool :=
  (s_law11_Over N l).bind fun over =>
  bif (ltB 0 over) then
   (s_law20_awake N).bind fun awak =>
   some awak
  else
   (s_law20_Over N s).bind fun over2 =>
   bif (ltB 0 over2) then
    (s_law20_awake N).bind fun awak2 =>
    some awak2
   else
    bif (ltB 10 (List.length s.Bound : Int)) then
     (s_law20_awake N).bind fun awak3 =>
     some awak3
    else
     bif (ltB k 0) then
      (s_law20_awake N).bind fun awak4 =>
      some awak4
     else
      bif (leB (List.length s.Bound : Int) k) then
       (s_law20_awake N).bind fun awak5 =>
       some awak5
      else
       (s_law11_Own N l).bind fun own =>
       (s_law06_Own N s.Types).bind fun own2 =>
       (s_law07_Own N s.E).bind fun own3 =>
       (s_law19_Pairs_own N s.Bound).bind fun pair =>
       (s_pred_Vars N own).bind fun vars =>
       lp2 (s_law20_JudgeAhead_1 N k own own2 vars s.Bound own3.Time own3.Source own3.Seq own3.Type_ own3.Vals pair) N false 0
end
end
end Go.Proofs.YtbanfalnbhcknaaGreatDoor.Y
