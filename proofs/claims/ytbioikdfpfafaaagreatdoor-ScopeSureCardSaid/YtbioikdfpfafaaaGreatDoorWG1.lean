/- The code, and what each function of it is walked to. No premise beyond what each theorem says. -/
import Derived.Test.YtbioikdfpfafaaaGreatDoorWA3
import Derived.Test.YtbioikdfpfafaaaGreatDoorProg
set_option linter.all false
set_option linter.unusedSimpArgs false
set_option linter.unusedVariables false
namespace Go.Proofs.YtbioikdfpfafaaaGreatDoor.W
open Go
section
open Go.Proofs.Tryz
set_option maxRecDepth 1000000
noncomputable section
structure A40 (α : Type) where
  (i0 i1 i2 i3 i4 i5 i6 i7 i8 i9 i10 i11 i12 i13 i14 i15 i16 i17 i18 i19 i20 i21 i22 i23 i24 i25 i26 i27 i28 i29 i30 i31 i32 i33 i34 i35 i36 i37 i38 i39 : α)
def A40.l {α : Type} (x : A40 α) : List α := [x.i0, x.i1, x.i2, x.i3, x.i4, x.i5, x.i6, x.i7, x.i8, x.i9, x.i10, x.i11, x.i12, x.i13, x.i14, x.i15, x.i16, x.i17, x.i18, x.i19, x.i20, x.i21, x.i22, x.i23, x.i24, x.i25, x.i26, x.i27, x.i28, x.i29, x.i30, x.i31, x.i32, x.i33, x.i34, x.i35, x.i36, x.i37, x.i38, x.i39]
def A40.of {α : Type} : List α → Option (A40 α) := oc fun x0 => oc fun x1 => oc fun x2 => oc fun x3 => oc fun x4 => oc fun x5 => oc fun x6 => oc fun x7 => oc fun x8 => oc fun x9 => oc fun x10 => oc fun x11 => oc fun x12 => oc fun x13 => oc fun x14 => oc fun x15 => oc fun x16 => oc fun x17 => oc fun x18 => oc fun x19 => oc fun x20 => oc fun x21 => oc fun x22 => oc fun x23 => oc fun x24 => oc fun x25 => oc fun x26 => oc fun x27 => oc fun x28 => oc fun x29 => oc fun x30 => oc fun x31 => oc fun x32 => oc fun x33 => oc fun x34 => oc fun x35 => oc fun x36 => oc fun x37 => oc fun x38 => oc fun x39 => on ⟨x0, x1, x2, x3, x4, x5, x6, x7, x8, x9, x10, x11, x12, x13, x14, x15, x16, x17, x18, x19, x20, x21, x22, x23, x24, x25, x26, x27, x28, x29, x30, x31, x32, x33, x34, x35, x36, x37, x38, x39⟩
theorem A40.of_l {α : Type} {l : List α} {x : A40 α} (h : A40.of l = some x) : x.l = l := by
  unfold A40.of at h
  iterate 40 (obtain ⟨_, _, rfl, q⟩ := oc_some h; clear h; revert q; intro h)
  obtain ⟨rfl, rfl⟩ := on_some h
  rfl
theorem A40.l_inj {α : Type} {x y : A40 α} (h : x.l = y.l) : x = y := Option.some.inj ((show A40.of x.l = some x from rfl).symm.trans ((congrArg A40.of h).trans rfl))
def A40.c {α : Type} (v : α) : A40 α := ⟨v, v, v, v, v, v, v, v, v, v, v, v, v, v, v, v, v, v, v, v, v, v, v, v, v, v, v, v, v, v, v, v, v, v, v, v, v, v, v, v⟩
def A40.set {α : Type} (x : A40 α) (n : Int) (v : α) : A40 α := ⟨cond (ieq n 0) v x.i0, cond (ieq n 1) v x.i1, cond (ieq n 2) v x.i2, cond (ieq n 3) v x.i3, cond (ieq n 4) v x.i4, cond (ieq n 5) v x.i5, cond (ieq n 6) v x.i6, cond (ieq n 7) v x.i7, cond (ieq n 8) v x.i8, cond (ieq n 9) v x.i9, cond (ieq n 10) v x.i10, cond (ieq n 11) v x.i11, cond (ieq n 12) v x.i12, cond (ieq n 13) v x.i13, cond (ieq n 14) v x.i14, cond (ieq n 15) v x.i15, cond (ieq n 16) v x.i16, cond (ieq n 17) v x.i17, cond (ieq n 18) v x.i18, cond (ieq n 19) v x.i19, cond (ieq n 20) v x.i20, cond (ieq n 21) v x.i21, cond (ieq n 22) v x.i22, cond (ieq n 23) v x.i23, cond (ieq n 24) v x.i24, cond (ieq n 25) v x.i25, cond (ieq n 26) v x.i26, cond (ieq n 27) v x.i27, cond (ieq n 28) v x.i28, cond (ieq n 29) v x.i29, cond (ieq n 30) v x.i30, cond (ieq n 31) v x.i31, cond (ieq n 32) v x.i32, cond (ieq n 33) v x.i33, cond (ieq n 34) v x.i34, cond (ieq n 35) v x.i35, cond (ieq n 36) v x.i36, cond (ieq n 37) v x.i37, cond (ieq n 38) v x.i38, cond (ieq n 39) v x.i39⟩
structure value_Value where
  Kind : Int
  N : Int
  Bits : Int
  Text : List UInt8
structure pred_Node where
  Kind : Int
  Op : Int
  Var : List UInt8
  Name : List UInt8
  Val : value_Value
structure shape_Node where
  Kind : Int
  Kids : Int
  Lo : Int
  Hi : Int
  Var : List UInt8
  Type_ : List UInt8
  Test : List pred_Node
structure shape_Pattern where
  Body : List shape_Node
  Within : Int
  By : List UInt8
  Mode : Int
structure schema_Field where
  Name : List UInt8
  Kind : Int
structure lex_Token where
  Kind : Int
  At : Int
  Text : List UInt8
  Val : value_Value
structure schema_Type where
  Name : List UInt8
  Fields : List schema_Field
def s_law04_Small (N : Nat) (v : value_Value) : Option Int :=
  gd (i64b ((List.length v.Text : Int) - 100)) (
  some (max 0 ((List.length v.Text : Int) - 100)))
def s_law11_Over_1 (N : Nat) (l : List pred_Node) (next0 : Int → Option Int) (i : Int) : Option Int :=
  bif (ltB i (List.length l : Int)) then
   (ix l i).bind fun e =>
   bif (ltB 40 (List.length e.Var : Int)) then
    some 1
   else
    (ix l i).bind fun e2 =>
    bif (ltB 40 (List.length e2.Name : Int)) then
     some 1
    else
     (ix l i).bind fun e3 =>
     (s_law04_Small N e3.Val).bind fun smal =>
     bif (ltB 0 smal) then
      some 1
     else
      gd (i64b (i + 1)) (
      next0 (i + 1))
  else
   some 0
def s_law11_Over (N : Nat) (l : List pred_Node) : Option Int :=
  bif (ltB 40 (List.length l : Int)) then
   some 1
  else
   lp1 (s_law11_Over_1 N l) N 0
def s_law13_Over_1 (N : Nat) (y : List shape_Node) (next0 : Int → Option Int) (i : Int) : Option Int :=
  bif (ltB i (List.length y : Int)) then
   (ix y i).bind fun e =>
   bif (ltB 40 (List.length e.Var : Int)) then
    some 1
   else
    (ix y i).bind fun e2 =>
    bif (ltB 40 (List.length e2.Type_ : Int)) then
     some 1
    else
     (ix y i).bind fun e3 =>
     (s_law11_Over N e3.Test).bind fun over =>
     bif (ltB 0 over) then
      some 1
     else
      gd (i64b (i + 1)) (
      next0 (i + 1))
  else
   some 0
def s_law13_Over (N : Nat) (p : shape_Pattern) : Option Int :=
  bif (ltB 50 (List.length p.Body : Int)) then
   some 1
  else
   bif (ltB 40 (List.length p.By : Int)) then
    some 1
   else
    lp1 (s_law13_Over_1 N p.Body) N 0
def moreZ (v : value_Value) : Bool := (v.Kind == 0) && ((v.N == 0) && ((v.Bits == 0) && (v.Text == [])))
def moreB (n : pred_Node) : Bool :=
  bif n.Kind == 4 then !((n.Var == []) && ((n.Name == []) && moreZ n.Val))
  else bif n.Kind == 7 then !((n.Op == 0) && ((n.Var == []) && moreZ n.Val))
  else bif n.Kind == 8 then !((n.Op == 0) && moreZ n.Val)
  else bif n.Kind == 9 then !((n.Op == 0) && ((n.Var == []) && (n.Name == [])))
  else !((n.Op == 0) && ((n.Var == []) && ((n.Name == []) && moreZ n.Val)))
def s_pred_Node_more (N : Nat) (n : pred_Node) : Option Bool := some (moreB n)
def s_predtext_parser_next_v424 (N : Nat) (y : List lex_Token) (y2 : Int) (y3 : Int) : Option (lex_Token × List lex_Token × Int × Int) :=
  bif (ltB y2 (List.length y : Int)) then
   (ix y y2).bind fun e =>
   some (e, y, y2, y3)
  else
   some ((lex_Token.mk 0 0 [] (value_Value.mk 0 0 0 [])), y, y2, y3)
def s_predtext_parser_place_v424 (N : Nat) (y : List lex_Token) (y2 : Int) (y3 : Int) : Option (Int × List lex_Token × Int × Int) :=
  bif (ltB y2 (List.length y : Int)) then
   (ix y y2).bind fun e =>
   some (e.At, y, y2, y3)
  else
   some (y3, y, y2, y3)
def s_predtext_parser_fail_v927 (N : Nat) (e : Int) (y : List lex_Token) (y2 : Int) (y3 : Int) : Option (Int × Int × List lex_Token × Int × Int) :=
  (s_predtext_parser_place_v424 N y y2 y3).bind fun plac =>
  some (e, plac.1, plac.2.1, plac.2.2.1, plac.2.2.2)
def s_predtext_parser_deeper_v927 (N : Nat) (deep : Int) (y : List lex_Token) (y2 : Int) (y3 : Int) : Option ((Int × Int × List lex_Token × Int × Int) ⊕ (List lex_Token × Int × Int)) :=
  (s_predtext_parser_next_v424 N y y2 y3).bind fun vnext =>
  bif (vnext.1.Kind == 2) then
   bif (vnext.1.Text == [110, 111, 116]) then
    bif (leB 16 deep) then
     (s_predtext_parser_fail_v927 N 15 vnext.2.1 vnext.2.2.1 vnext.2.2.2).bind fun fail =>
     some (Sum.inl (fail.1, fail.2.1, fail.2.2.1, fail.2.2.2.1, fail.2.2.2.2))
    else
     some (Sum.inr (vnext.2.1, vnext.2.2.1, vnext.2.2.2))
   else
    bif (vnext.1.Kind == 4) then
     bif (vnext.1.Text == [40]) then
      bif (leB 16 deep) then
       (s_predtext_parser_fail_v927 N 15 vnext.2.1 vnext.2.2.1 vnext.2.2.2).bind fun fail2 =>
       some (Sum.inl (fail2.1, fail2.2.1, fail2.2.2.1, fail2.2.2.2.1, fail2.2.2.2.2))
      else
       some (Sum.inr (vnext.2.1, vnext.2.2.1, vnext.2.2.2))
     else
      some (Sum.inr (vnext.2.1, vnext.2.2.1, vnext.2.2.2))
    else
     some (Sum.inr (vnext.2.1, vnext.2.2.1, vnext.2.2.2))
  else
   bif (vnext.1.Kind == 4) then
    bif (vnext.1.Text == [40]) then
     bif (leB 16 deep) then
      (s_predtext_parser_fail_v927 N 15 vnext.2.1 vnext.2.2.1 vnext.2.2.2).bind fun fail3 =>
      some (Sum.inl (fail3.1, fail3.2.1, fail3.2.2.1, fail3.2.2.2.1, fail3.2.2.2.2))
     else
      some (Sum.inr (vnext.2.1, vnext.2.2.1, vnext.2.2.2))
    else
     some (Sum.inr (vnext.2.1, vnext.2.2.1, vnext.2.2.2))
   else
    some (Sum.inr (vnext.2.1, vnext.2.2.1, vnext.2.2.2))
def s_predtext_parser_eat_v368 (N : Nat) (kind : Int) (text : List UInt8) (y : List lex_Token) (y2 : Int) (y3 : Int) : Option (Bool × List lex_Token × Int × Int) :=
  (s_predtext_parser_next_v424 N y y2 y3).bind fun vnext =>
  bif (vnext.1.Kind != kind) then
   some (false, vnext.2.1, vnext.2.2.1, vnext.2.2.2)
  else
   bif (!(vnext.1.Text == text)) then
    some (false, vnext.2.1, vnext.2.2.1, vnext.2.2.2)
   else
    gd (i64b (vnext.2.2.1 + 1)) (
    some (true, vnext.2.1, (vnext.2.2.1 + 1), vnext.2.2.2))
def s_slices_Grow_pred_Node_own (N : Nat) (n : Int) : Option (List pred_Node) := gd (leB 0 n) (gd (leB (80 * n) 140737488355328) (some []))
def s_slices_Concat_pred_Node_2 (N : Nat) (x4 : List (List pred_Node)) (x5 : Int) (next2 : Int → (List pred_Node) → Option ((List UInt8) ⊕ (List pred_Node))) (x6 : Int) (ys : List pred_Node) : Option ((List UInt8) ⊕ (List pred_Node)) :=
  bif (ltB x6 x5) then
   (ix x4 x6).bind fun e2 =>
   gd (Nat.ble ((List.length ys + List.length e2) * 80) 140737488355328) (
   gd (i64b (x6 + 1)) (
   next2 (x6 + 1) (ys ++ e2)))
  else
   some (Sum.inr ys)
def s_slices_Concat_pred_Node_1 (N : Nat) (slices : List (List pred_Node)) (x : List (List pred_Node)) (x2 : Int) (next0 : Int → Int → Option ((List UInt8) ⊕ (List pred_Node))) (size : Int) (x3 : Int) : Option ((List UInt8) ⊕ (List pred_Node)) :=
  bif (ltB x3 x2) then
   (ix x x3).bind fun e =>
   gd (i64b (size + (List.length e : Int))) (
   bif (ltB (size + (List.length e : Int)) 0) then
    some (Sum.inl [108, 101, 110, 32, 111, 117, 116, 32, 111, 102, 32, 114, 97, 110, 103, 101])
   else
    gd (i64b (x3 + 1)) (
    next0 (size + (List.length e : Int)) (x3 + 1)))
  else
   (s_slices_Grow_pred_Node_own N size).bind fun node =>
   lp2 (s_slices_Concat_pred_Node_2 N slices (List.length slices : Int)) N 0 node
def s_slices_Concat_pred_Node (N : Nat) (slices : List (List pred_Node)) : Option ((List UInt8) ⊕ (List pred_Node)) :=
  lp2 (s_slices_Concat_pred_Node_1 N slices slices (List.length slices : Int)) N 0 0
def s_predtext_above (N : Nat) (n : pred_Node) (kids : List (List pred_Node)) : Option (List pred_Node) :=
  (s_slices_Concat_pred_Node N kids).bind fun x => Sum.elim
  (fun node =>
   none)
  (fun node2 =>
   gd (Nat.ble ((1 + List.length node2) * 80) 140737488355328) (
   some (n :: node2))) x
def s_predtext_parser_take_v128 (N : Nat) (kind : Int) (y : List lex_Token) (y2 : Int) (y3 : Int) : Option ((Int × Int × List lex_Token × Int × Int) ⊕ (lex_Token × List lex_Token × Int × Int)) :=
  (s_predtext_parser_next_v424 N y y2 y3).bind fun vnext =>
  bif (vnext.1.Kind != kind) then
   (s_predtext_parser_fail_v927 N 4 vnext.2.1 vnext.2.2.1 vnext.2.2.2).bind fun fail =>
   some (Sum.inl (fail.1, fail.2.1, fail.2.2.1, fail.2.2.2.1, fail.2.2.2.2))
  else
   gd (i64b (vnext.2.2.1 + 1)) (
   some (Sum.inr (vnext.1, vnext.2.1, (vnext.2.2.1 + 1), vnext.2.2.2)))
def s_predtext_parser_unit_v424 (N : Nat) (y : List lex_Token) (y2 : Int) (y3 : Int) : Option ((Int × Int × List lex_Token × Int × Int) ⊕ (List pred_Node × List lex_Token × Int × Int)) :=
  (s_predtext_parser_eat_v368 N 4 [45] y y2 y3).bind fun eat =>
  bif eat.1 then
   (s_predtext_parser_next_v424 N eat.2.1 eat.2.2.1 eat.2.2.2).bind fun vnext =>
   bif (vnext.1.Val.Kind != 1) then
    (s_predtext_parser_fail_v927 N 4 vnext.2.1 vnext.2.2.1 vnext.2.2.2).bind fun fail =>
    some (Sum.inl (fail.1, fail.2.1, fail.2.2.1, fail.2.2.2.1, fail.2.2.2.2))
   else
    (s_predtext_parser_take_v128 N 3 vnext.2.1 vnext.2.2.1 vnext.2.2.2).bind fun x => Sum.elim
    (fun take =>
     some (Sum.inl (take.1, take.2.1, take.2.2.1, take.2.2.2.1, take.2.2.2.2)))
    (fun take2 =>
     some (Sum.inr ([(pred_Node.mk 9 0 [] [] (value_Value.mk take2.1.Val.Kind (IntKind.i64.wrap (0 - take2.1.Val.N)) take2.1.Val.Bits take2.1.Val.Text))], take2.2.1, take2.2.2.1, take2.2.2.2))) x
  else
   (s_predtext_parser_next_v424 N eat.2.1 eat.2.2.1 eat.2.2.2).bind fun vnext2 =>
   bif (vnext2.1.Kind == 3) then
    gd (i64b (vnext2.2.2.1 + 1)) (
    some (Sum.inr ([(pred_Node.mk 9 0 [] [] vnext2.1.Val)], vnext2.2.1, (vnext2.2.2.1 + 1), vnext2.2.2.2)))
   else
    (s_predtext_parser_take_v128 N 1 vnext2.2.1 vnext2.2.2.1 vnext2.2.2.2).bind fun x => Sum.elim
    (fun take3 =>
     some (Sum.inl (take3.1, take3.2.1, take3.2.2.1, take3.2.2.2.1, take3.2.2.2.2)))
    (fun take4 =>
     (s_predtext_parser_eat_v368 N 4 [46] take4.2.1 take4.2.2.1 take4.2.2.2).bind fun eat2 =>
     bif eat2.1 then
      (s_predtext_parser_take_v128 N 1 eat2.2.1 eat2.2.2.1 eat2.2.2.2).bind fun x => Sum.elim
      (fun take5 =>
       some (Sum.inl (take5.1, take5.2.1, take5.2.2.1, take5.2.2.2.1, take5.2.2.2.2)))
      (fun take6 =>
       some (Sum.inr ([(pred_Node.mk 8 0 take4.1.Text take6.1.Text (value_Value.mk 0 0 0 []))], take6.2.1, take6.2.2.1, take6.2.2.2))) x
     else
      some (Sum.inr ([(pred_Node.mk 7 0 [] take4.1.Text (value_Value.mk 0 0 0 []))], eat2.2.1, eat2.2.2.1, eat2.2.2.2))) x
def s_predtext_parser_sum_v424_1 (N : Nat) (next0 : (List pred_Node) → (List lex_Token) → Int → Int → Option ((Int × Int × List lex_Token × Int × Int) ⊕ (List pred_Node × List lex_Token × Int × Int))) (l : List pred_Node) (y4 : List lex_Token) (y5 : Int) (y6 : Int) : Option ((Int × Int × List lex_Token × Int × Int) ⊕ (List pred_Node × List lex_Token × Int × Int)) :=
  (s_predtext_parser_eat_v368 N 4 [43] y4 y5 y6).bind fun eat =>
  bif eat.1 then
   (s_predtext_parser_unit_v424 N eat.2.1 eat.2.2.1 eat.2.2.2).bind fun x => Sum.elim
   (fun unit3 =>
    some (Sum.inl (unit3.1, unit3.2.1, unit3.2.2.1, unit3.2.2.2.1, unit3.2.2.2.2)))
   (fun unit4 =>
    (s_predtext_above N (pred_Node.mk 5 0 [] [] (value_Value.mk 0 0 0 [])) [l, unit4.1]).bind fun abov =>
    next0 abov unit4.2.1 unit4.2.2.1 unit4.2.2.2) x
  else
   (s_predtext_parser_eat_v368 N 4 [45] eat.2.1 eat.2.2.1 eat.2.2.2).bind fun eat2 =>
   bif eat2.1 then
    (s_predtext_parser_unit_v424 N eat2.2.1 eat2.2.2.1 eat2.2.2.2).bind fun x => Sum.elim
    (fun unit5 =>
     some (Sum.inl (unit5.1, unit5.2.1, unit5.2.2.1, unit5.2.2.2.1, unit5.2.2.2.2)))
    (fun unit6 =>
     (s_predtext_above N (pred_Node.mk 6 0 [] [] (value_Value.mk 0 0 0 [])) [l, unit6.1]).bind fun abov2 =>
     next0 abov2 unit6.2.1 unit6.2.2.1 unit6.2.2.2) x
   else
    some (Sum.inr (l, eat2.2.1, eat2.2.2.1, eat2.2.2.2))
def s_predtext_parser_sum_v424 (N : Nat) (y : List lex_Token) (y2 : Int) (y3 : Int) : Option ((Int × Int × List lex_Token × Int × Int) ⊕ (List pred_Node × List lex_Token × Int × Int)) :=
  (s_predtext_parser_unit_v424 N y y2 y3).bind fun x => Sum.elim
  (fun unit =>
   some (Sum.inl (unit.1, unit.2.1, unit.2.2.1, unit.2.2.2.1, unit.2.2.2.2)))
  (fun unit2 =>
   lp4 (s_predtext_parser_sum_v424_1 N) N unit2.1 unit2.2.1 unit2.2.2.1 unit2.2.2.2) x
def s_compare_Sign (N : Nat) (op : Int) : Option (List UInt8) :=
  bif (op == 1) then
   some [61]
  else
   bif (op == 2) then
    some [33, 61]
   else
    bif (op == 3) then
     some [60]
    else
     bif (op == 4) then
      some [60, 61]
     else
      bif (op == 5) then
       some [62]
      else
       bif (op == 6) then
        some [62, 61]
       else
        some []
def s_compare_Op_1 (N : Nat) (sign : List UInt8) (next0 : Int → Option Int) (op : Int) : Option Int :=
  bif (leB op 6) then
   (s_compare_Sign N op).bind fun sign2 =>
   bif (sign2 == sign) then
    some op
   else
    next0 (IntKind.u8.wrap (op + 1))
  else
   some 0
def s_compare_Op (N : Nat) (sign : List UInt8) : Option Int :=
  lp1 (s_compare_Op_1 N sign) N 1
abbrev TS_predtext_parser_or_v927 : Type := (Int → (List lex_Token) → Int → Int → Option ((Int × Int × List lex_Token × Int × Int) ⊕ (List pred_Node × List lex_Token × Int × Int))) × (Int → (List lex_Token) → Int → Int → Option ((Int × Int × List lex_Token × Int × Int) ⊕ (List pred_Node × List lex_Token × Int × Int))) × (Int → (List lex_Token) → Int → Int → Option ((Int × Int × List lex_Token × Int × Int) ⊕ (List pred_Node × List lex_Token × Int × Int)))
def s_predtext_parser_or_v927_1 (N : Nat) (p : TS_predtext_parser_or_v927) (deep : Int) (next0 : (List pred_Node) → (List lex_Token) → Int → Int → Option ((Int × Int × List lex_Token × Int × Int) ⊕ (List pred_Node × List lex_Token × Int × Int))) (l : List pred_Node) (y4 : List lex_Token) (y5 : Int) (y6 : Int) : Option ((Int × Int × List lex_Token × Int × Int) ⊕ (List pred_Node × List lex_Token × Int × Int)) :=
  (s_predtext_parser_eat_v368 N 2 [111, 114] y4 y5 y6).bind fun eat =>
  bif eat.1 then
   (p.2.1 deep eat.2.1 eat.2.2.1 eat.2.2.2).bind fun x => Sum.elim
   (fun and3 =>
    some (Sum.inl (and3.1, and3.2.1, and3.2.2.1, and3.2.2.2.1, and3.2.2.2.2)))
   (fun and4 =>
    (s_predtext_above N (pred_Node.mk 2 0 [] [] (value_Value.mk 0 0 0 [])) [l, and4.1]).bind fun abov =>
    next0 abov and4.2.1 and4.2.2.1 and4.2.2.2) x
  else
   some (Sum.inr (l, eat.2.1, eat.2.2.1, eat.2.2.2))
def b_predtext_parser_or_v927 (N : Nat) (p : TS_predtext_parser_or_v927) (deep : Int) (y : List lex_Token) (y2 : Int) (y3 : Int) : Option ((Int × Int × List lex_Token × Int × Int) ⊕ (List pred_Node × List lex_Token × Int × Int)) :=
  (p.2.1 deep y y2 y3).bind fun x => Sum.elim
  (fun and =>
   some (Sum.inl (and.1, and.2.1, and.2.2.1, and.2.2.2.1, and.2.2.2.2)))
  (fun and2 =>
   lp4 (s_predtext_parser_or_v927_1 N p deep) N and2.1 and2.2.1 and2.2.2.1 and2.2.2.2) x
def s_predtext_parser_and_v927_1 (N : Nat) (p : TS_predtext_parser_or_v927) (deep : Int) (next0 : (List pred_Node) → (List lex_Token) → Int → Int → Option ((Int × Int × List lex_Token × Int × Int) ⊕ (List pred_Node × List lex_Token × Int × Int))) (l : List pred_Node) (y4 : List lex_Token) (y5 : Int) (y6 : Int) : Option ((Int × Int × List lex_Token × Int × Int) ⊕ (List pred_Node × List lex_Token × Int × Int)) :=
  (s_predtext_parser_eat_v368 N 2 [97, 110, 100] y4 y5 y6).bind fun eat =>
  bif eat.1 then
   (p.2.2 deep eat.2.1 eat.2.2.1 eat.2.2.2).bind fun x => Sum.elim
   (fun part3 =>
    some (Sum.inl (part3.1, part3.2.1, part3.2.2.1, part3.2.2.2.1, part3.2.2.2.2)))
   (fun part4 =>
    (s_predtext_above N (pred_Node.mk 1 0 [] [] (value_Value.mk 0 0 0 [])) [l, part4.1]).bind fun abov =>
    next0 abov part4.2.1 part4.2.2.1 part4.2.2.2) x
  else
   some (Sum.inr (l, eat.2.1, eat.2.2.1, eat.2.2.2))
def b_predtext_parser_and_v927 (N : Nat) (p : TS_predtext_parser_or_v927) (deep : Int) (y : List lex_Token) (y2 : Int) (y3 : Int) : Option ((Int × Int × List lex_Token × Int × Int) ⊕ (List pred_Node × List lex_Token × Int × Int)) :=
  (p.2.2 deep y y2 y3).bind fun x => Sum.elim
  (fun part =>
   some (Sum.inl (part.1, part.2.1, part.2.2.1, part.2.2.2.1, part.2.2.2.2)))
  (fun part2 =>
   lp4 (s_predtext_parser_and_v927_1 N p deep) N part2.1 part2.2.1 part2.2.2.1 part2.2.2.2) x
def b_predtext_parser_part_v927 (N : Nat) (p : TS_predtext_parser_or_v927) (deep : Int) (y : List lex_Token) (y2 : Int) (y3 : Int) : Option ((Int × Int × List lex_Token × Int × Int) ⊕ (List pred_Node × List lex_Token × Int × Int)) :=
  (s_predtext_parser_deeper_v927 N deep y y2 y3).bind fun x => Sum.elim
  (fun deep2 =>
   some (Sum.inl (deep2.1, deep2.2.1, deep2.2.2.1, deep2.2.2.2.1, deep2.2.2.2.2)))
  (fun deep3 =>
   (s_predtext_parser_eat_v368 N 2 [110, 111, 116] deep3.1 deep3.2.1 deep3.2.2).bind fun eat =>
   bif eat.1 then
    gd (i64b (deep + 1)) (
    (p.2.2 (deep + 1) eat.2.1 eat.2.2.1 eat.2.2.2).bind fun x => Sum.elim
    (fun part =>
     some (Sum.inl (part.1, part.2.1, part.2.2.1, part.2.2.2.1, part.2.2.2.2)))
    (fun part2 =>
     (s_predtext_above N (pred_Node.mk 3 0 [] [] (value_Value.mk 0 0 0 [])) [part2.1]).bind fun abov =>
     some (Sum.inr (abov, part2.2.1, part2.2.2.1, part2.2.2.2))) x)
   else
    (s_predtext_parser_eat_v368 N 4 [40] eat.2.1 eat.2.2.1 eat.2.2.2).bind fun eat2 =>
    bif eat2.1 then
     gd (i64b (deep + 1)) (
     (p.1 (deep + 1) eat2.2.1 eat2.2.2.1 eat2.2.2.2).bind fun x => Sum.elim
     (fun or =>
      some (Sum.inl (or.1, or.2.1, or.2.2.1, or.2.2.2.1, or.2.2.2.2)))
     (fun or2 =>
      (s_predtext_parser_eat_v368 N 4 [41] or2.2.1 or2.2.2.1 or2.2.2.2).bind fun eat3 =>
      bif (!eat3.1) then
       (s_predtext_parser_fail_v927 N 4 eat3.2.1 eat3.2.2.1 eat3.2.2.2).bind fun fail =>
       some (Sum.inl (fail.1, fail.2.1, fail.2.2.1, fail.2.2.2.1, fail.2.2.2.2))
      else
       some (Sum.inr (or2.1, eat3.2.1, eat3.2.2.1, eat3.2.2.2))) x)
    else
     (s_predtext_parser_sum_v424 N eat2.2.1 eat2.2.2.1 eat2.2.2.2).bind fun x => Sum.elim
     (fun sum =>
      some (Sum.inl (sum.1, sum.2.1, sum.2.2.1, sum.2.2.2.1, sum.2.2.2.2)))
     (fun sum2 =>
      (s_predtext_parser_next_v424 N sum2.2.1 sum2.2.2.1 sum2.2.2.2).bind fun vnext =>
      (s_compare_Op N vnext.1.Text).bind fun op =>
      bif (op == 0) then
       (s_predtext_parser_fail_v927 N 4 vnext.2.1 vnext.2.2.1 vnext.2.2.2).bind fun fail2 =>
       some (Sum.inl (fail2.1, fail2.2.1, fail2.2.2.1, fail2.2.2.2.1, fail2.2.2.2.2))
      else
       (s_predtext_parser_take_v128 N 4 vnext.2.1 vnext.2.2.1 vnext.2.2.2).bind fun x => Sum.elim
       (fun take =>
        some (Sum.inl (take.1, take.2.1, take.2.2.1, take.2.2.2.1, take.2.2.2.2)))
       (fun take2 =>
        (s_predtext_parser_sum_v424 N take2.2.1 take2.2.2.1 take2.2.2.2).bind fun x => Sum.elim
        (fun sum3 =>
         some (Sum.inl (sum3.1, sum3.2.1, sum3.2.2.1, sum3.2.2.2.1, sum3.2.2.2.2)))
        (fun sum4 =>
         (s_predtext_above N (pred_Node.mk 4 op [] [] (value_Value.mk 0 0 0 [])) [sum2.1, sum4.1]).bind fun abov2 =>
         some (Sum.inr (abov2, sum4.2.1, sum4.2.2.1, sum4.2.2.2))) x) x) x) x
def SS_predtext_parser_or_v927 (N : Nat) : TS_predtext_parser_or_v927 := Nat.rec (motive := fun _ => TS_predtext_parser_or_v927) ((fun _ _ _ _ => none), (fun _ _ _ _ => none), (fun _ _ _ _ => none)) (fun N p => ((b_predtext_parser_or_v927 N p), (b_predtext_parser_and_v927 N p), (b_predtext_parser_part_v927 N p))) N
def s_predtext_parser_or_v927 (N : Nat) (deep : Int) (y : List lex_Token) (y2 : Int) (y3 : Int) : Option ((Int × Int × List lex_Token × Int × Int) ⊕ (List pred_Node × List lex_Token × Int × Int)) := (SS_predtext_parser_or_v927 N).1 deep y y2 y3
def s_predtext_parser_and_v927 (N : Nat) (deep : Int) (y : List lex_Token) (y2 : Int) (y3 : Int) : Option ((Int × Int × List lex_Token × Int × Int) ⊕ (List pred_Node × List lex_Token × Int × Int)) := (SS_predtext_parser_or_v927 N).2.1 deep y y2 y3
def s_predtext_parser_part_v927 (N : Nat) (deep : Int) (y : List lex_Token) (y2 : Int) (y3 : Int) : Option ((Int × Int × List lex_Token × Int × Int) ⊕ (List pred_Node × List lex_Token × Int × Int)) := (SS_predtext_parser_or_v927 N).2.2 deep y y2 y3
def s_pred_Node_stands (N : Nat) (n : pred_Node) (vwhere : Int) : Option Bool :=
  bif (vwhere == 0) then
   bif (leB 1 n.Kind) then
    some (leB n.Kind 4)
   else
    some false
  else
   bif (vwhere == 1) then
    bif (leB 5 n.Kind) then
     some (leB n.Kind 9)
    else
     some false
   else
    bif (leB 7 n.Kind) then
     some (leB n.Kind 9)
    else
     some false
def s_schema_letter (N : Nat) (c : Int) : Option Bool :=
  bif (leB 97 c) then
   some (leB c 122)
  else
   some false
def s_schema_Reserved (N : Nat) (s : List UInt8) : Option Bool :=
  bif (s == [119, 105, 116, 104, 105, 110]) then
   bif (s == [119, 105, 116, 104, 105, 110]) then
    some true
   else
    some false
  else
   bif (s == [98, 121]) then
    bif (s == [98, 121]) then
     some true
    else
     some false
   else
    bif (s == [97, 110, 100]) then
     bif (s == [97, 110, 100]) then
      some true
     else
      some false
    else
     bif (s == [111, 114]) then
      bif (s == [111, 114]) then
       some true
      else
       some false
     else
      bif (s == [110, 111, 116]) then
       bif (s == [110, 111, 116]) then
        some true
       else
        some false
      else
       bif (s == [97, 110, 121]) then
        bif (s == [97, 110, 121]) then
         some true
        else
         some false
       else
        bif (s == [110, 101, 120, 116]) then
         bif (s == [110, 101, 120, 116]) then
          some true
         else
          some false
        else
         bif (s == [115, 116, 114, 105, 99, 116]) then
          bif (s == [115, 116, 114, 105, 99, 116]) then
           some true
          else
           some false
         else
          bif (s == [116, 114, 117, 101]) then
           bif (s == [116, 114, 117, 101]) then
            some true
           else
            some false
          else
           bif (s == [102, 97, 108, 115, 101]) then
            some true
           else
            some false
def s_schema_tail (N : Nat) (c : Int) : Option Bool :=
  (s_schema_letter N c).bind fun lett =>
  bif lett then
   some true
  else
   bif (leB 48 c) then
    bif (leB c 57) then
     some true
    else
     some (c == 95)
   else
    some (c == 95)
def s_schema_Name_1 (N : Nat) (s : List UInt8) (next0 : Int → Option Bool) (i : Int) : Option Bool :=
  bif (ltB i (List.length s : Int)) then
   (ix s i).bind fun c2 =>
   (s_schema_tail N (UInt8.toNat c2 : Int)).bind fun tail =>
   bif (!tail) then
    some false
   else
    gd (i64b (i + 1)) (
    next0 (i + 1))
  else
   some true
def s_schema_Name (N : Nat) (s : List UInt8) : Option Bool :=
  bif (s == []) then
   some false
  else
   bif (ltB 12 (List.length s : Int)) then
    some false
   else
    (ix s 0).bind fun c =>
    (s_schema_letter N (UInt8.toNat c : Int)).bind fun lett =>
    bif (!lett) then
     some false
    else
     (s_schema_Reserved N s).bind fun rese =>
     bif rese then
      some false
     else
      lp1 (s_schema_Name_1 N s) N 1
def s_value_core (N : Nat) (v : value_Value) : Option (Int ⊕ Int ⊕ Int ⊕ (List UInt8) ⊕ Unit) :=
  bif (v.Kind == 1) then
   some (Sum.inl v.N)
  else
   bif (v.Kind == 2) then
    some (Sum.inr (Sum.inl v.N))
   else
    bif (v.Kind == 3) then
     some (Sum.inr (Sum.inr (Sum.inl v.Bits)))
    else
     bif (v.Kind == 4) then
      some (Sum.inr (Sum.inr (Sum.inr (Sum.inl v.Text))))
     else
      some (Sum.inr (Sum.inr (Sum.inr (Sum.inr ()))))
def s_value_number_whole (N : Nat) (n : Int) : Option value_Value :=
  some (value_Value.mk 1 n 0 [])
def s_value_flag_whole (N : Nat) (n : Int) : Option value_Value :=
  some (value_Value.mk 2 n 0 [])
def s_real_of (N : Nat) (u : Int) : Option Nat :=
  some (Int.toNat u)
def s_real_Clean (N : Nat) (u : Int) : Option Int :=
  (s_real_of N u).bind fun of =>
  bif (fcmpB .neq .f64 of of) then
   some 9221120237041090560
  else
   some u
def s_value_double_whole (N : Nat) (u : Int) : Option value_Value :=
  some (value_Value.mk 3 0 u [])
def s_value_words_whole (N : Nat) (s : List UInt8) : Option value_Value :=
  some (value_Value.mk 4 0 0 s)
def s_value_Check (N : Nat) (v : value_Value) : Option Int :=
  (s_value_core N v).bind fun x => Sum.elim
  (fun core =>
   bif (ltB core (-4611686018427387904)) then
    some 8
   else
    bif (ltB 4611686018427387904 core) then
     some 8
    else
     (s_value_number_whole N core).bind fun whol =>
     bif (!((whol.Kind == v.Kind) && ((whol.N == v.N) && ((whol.Bits == v.Bits) && (whol.Text == v.Text))))) then
      some 2
     else
      some 0)
  (Sum.elim
  (fun core2 =>
   bif (core2 != 0) then
    bif (core2 != 1) then
     some 8
    else
     (s_value_flag_whole N core2).bind fun whol2 =>
     bif (!((whol2.Kind == v.Kind) && ((whol2.N == v.N) && ((whol2.Bits == v.Bits) && (whol2.Text == v.Text))))) then
      some 2
     else
      some 0
   else
    (s_value_flag_whole N core2).bind fun whol3 =>
    bif (!((whol3.Kind == v.Kind) && ((whol3.N == v.N) && ((whol3.Bits == v.Bits) && (whol3.Text == v.Text))))) then
     some 2
    else
     some 0)
  (Sum.elim
  (fun core3 =>
   (s_real_Clean N core3).bind fun clea =>
   bif (clea != core3) then
    some 4
   else
    (s_value_double_whole N core3).bind fun whol4 =>
    bif (!((whol4.Kind == v.Kind) && ((whol4.N == v.N) && ((whol4.Bits == v.Bits) && (whol4.Text == v.Text))))) then
     some 2
    else
     some 0)
  (Sum.elim
  (fun core4 =>
   bif (ltB 24 (List.length core4 : Int)) then
    some 5
   else
    (s_value_words_whole N core4).bind fun whol5 =>
    bif (!((whol5.Kind == v.Kind) && ((whol5.N == v.N) && ((whol5.Bits == v.Bits) && (whol5.Text == v.Text))))) then
     some 2
    else
     some 0)
  (fun core5 =>
   some 11)))) x
def s_pred_Node_lacks (N : Nat) (n : pred_Node) : Option Bool :=
  bif (n.Kind == 4) then
   (s_compare_Sign N n.Op).bind fun sign =>
   some (sign == [])
  else
   bif (n.Kind == 7) then
    (s_schema_Name N n.Name).bind fun name =>
    some (!name)
   else
    bif (n.Kind == 8) then
     (s_schema_Name N n.Name).bind fun name2 =>
     bif (!name2) then
      some true
     else
      (s_schema_Name N n.Var).bind fun name3 =>
      some (!name3)
    else
     bif (n.Kind == 9) then
      (s_value_Check N n.Val).bind fun chec =>
      some (chec != 0)
     else
      some false
def s_pred_is_v782 (N : Nat) (n : pred_Node) (e : Int) : Option Int :=
  (s_pred_Node_lacks N n).bind fun lack =>
  bif lack then
   some e
  else
   some 0
def s_pred_is_v272 (N : Nat) (n : pred_Node) (e : Int) : Option Int :=
  (s_pred_Node_more N n).bind fun more =>
  bif more then
   some e
  else
   some 0
def s_pred_Kids (N : Nat) (kind : Int) : Option Int :=
  bif (kind == 1) then
   bif (kind == 1) then
    some 2
   else
    bif (kind == 3) then
     some 1
    else
     some 0
  else
   bif (kind == 2) then
    bif (kind == 2) then
     some 2
    else
     bif (kind == 3) then
      some 1
     else
      some 0
   else
    bif (kind == 4) then
     bif (kind == 4) then
      some 2
     else
      bif (kind == 3) then
       some 1
      else
       some 0
    else
     bif (kind == 5) then
      bif (kind == 5) then
       some 2
      else
       bif (kind == 3) then
        some 1
       else
        some 0
     else
      bif (kind == 6) then
       some 2
      else
       bif (kind == 3) then
        some 1
       else
        some 0
def s_pred_Node_kid (N : Nat) (n : pred_Node) (which : Int) : Option Int :=
  bif (leB n.Kind 3) then
   some 0
  else
   bif (n.Kind == 4) then
    bif (n.Kind == 4) then
     some 1
    else
     some 2
   else
    bif (which == 0) then
     some 1
    else
     some 2
abbrev TS_pred_checker_tree_v739 : Type := (Int → Int → (List pred_Node) → Int → Option (Int × List pred_Node × Int))
def s_pred_checker_tree_v739_1 (N : Nat) (p : TS_pred_checker_tree_v739) (deep : Int) (kids : Int) (y5 : Int) (y6 : Int) (y7 : List UInt8) (y8 : List UInt8) (y9 : Int) (y10 : Int) (y11 : Int) (y12 : List UInt8) (next0 : Int → (List pred_Node) → Int → Option (Int × List pred_Node × Int)) (x : Int) (y3 : List pred_Node) (y4 : Int) : Option (Int × List pred_Node × Int) :=
  bif (ltB x kids) then
   (s_pred_Node_kid N (pred_Node.mk y5 y6 y7 y8 (value_Value.mk y9 y10 y11 y12)) x).bind fun kid =>
   gd (i64b (deep + 1)) (
   (p kid (deep + 1) y3 y4).bind fun tree =>
   bif (tree.1 != 0) then
    some (tree.1, tree.2.1, tree.2.2)
   else
    gd (i64b (x + 1)) (
    next0 (x + 1) tree.2.1 tree.2.2))
  else
   some (0, y3, y4)
def b_pred_checker_tree_v739 (N : Nat) (p : TS_pred_checker_tree_v739) (vwhere : Int) (deep : Int) (y : List pred_Node) (y2 : Int) : Option (Int × List pred_Node × Int) :=
  bif (leB (List.length y : Int) y2) then
   some (3, y, y2)
  else
   (ix y y2).bind fun e =>
   bif (leB 16 deep) then
    some (15, y, y2)
   else
    (s_pred_Node_stands N e vwhere).bind fun stan =>
    bif (!stan) then
     some (11, y, y2)
    else
     (s_pred_is_v782 N e 4).bind fun is =>
     bif (is != 0) then
      some (is, y, y2)
     else
      (s_pred_is_v272 N e 2).bind fun is2 =>
      bif (is2 != 0) then
       some (is2, y, y2)
      else
       gd (i64b (y2 + 1)) (
       (s_pred_Kids N e.Kind).bind fun kids =>
       lp3 (s_pred_checker_tree_v739_1 N p deep kids e.Kind e.Op e.Var e.Name e.Val.Kind e.Val.N e.Val.Bits e.Val.Text) N 0 y (y2 + 1))
def SS_pred_checker_tree_v739 (N : Nat) : TS_pred_checker_tree_v739 := Nat.rec (motive := fun _ => TS_pred_checker_tree_v739) (fun _ _ _ _ => none) (fun N p => (b_pred_checker_tree_v739 N p)) N
def s_pred_checker_tree_v739 (N : Nat) (vwhere : Int) (deep : Int) (y : List pred_Node) (y2 : Int) : Option (Int × List pred_Node × Int) := (SS_pred_checker_tree_v739 N) vwhere deep y y2
def s_pred_Check (N : Nat) (l : List pred_Node) : Option Int :=
  bif (ltB 30 (List.length l : Int)) then
   some 5
  else
   bif ((List.length l : Int) == 0) then
    some 0
   else
    (s_pred_checker_tree_v739 N 0 0 l 0).bind fun tree =>
    bif (tree.1 != 0) then
     some tree.1
    else
     bif (ltB tree.2.2 (List.length l : Int)) then
      some 5
     else
      some 0
def s_predtext_Parse (N : Nat) (l : List lex_Token) (at_ e : Int) : Option ((List pred_Node × Int) ⊕ (List pred_Node × Int × Int × Int)) :=
  bif ltB at_ 0 then some (.inr ([], 0, 2, 0))
  else bif ltB (l.length : Int) at_ then some (.inr ([], 0, 2, 0))
  else (s_predtext_parser_place_v424 N l at_ e).bind fun x =>
    (s_predtext_parser_or_v927 N 0 x.2.1 x.2.2.1 x.2.2.2).bind fun y => Sum.elim
      (fun p => gd (p.1 != 0) (some (.inr ([], 0, p.1, p.2.1))))
      (fun r => (s_pred_Check N r.1).bind fun c => bif c != 0 then some (.inr ([], 0, c, x.1)) else some (.inl (r.1, r.2.2.1))) y
def s_law15_awake (N : Nat) : Option Bool := some true
def s_law11_Own_1 (N : Nat) (l : List pred_Node) (next0 : Int → (List pred_Node) → Option (List pred_Node)) (i : Int) (ys : List pred_Node) : Option (List pred_Node) :=
  bif (ltB i (List.length l : Int)) then
   (ix l i).bind fun e =>
   gd (Nat.ble ((List.length ys + 1) * 80) 140737488355328) (
   gd (i64b (i + 1)) (
   next0 (i + 1) (ys ++ [e])))
  else
   some ys
def s_law11_Own (N : Nat) (l : List pred_Node) : Option (List pred_Node) :=
  lp2 (s_law11_Own_1 N l) N 0 []
def s_law13_Own_1 (N : Nat) (y : List shape_Node) (y5 : Int) (y6 : List UInt8) (y7 : Int) (next0 : Int → (List shape_Node) → Option shape_Pattern) (i : Int) (ys : List shape_Node) : Option shape_Pattern :=
  bif (ltB i (List.length y : Int)) then
   (ix y i).bind fun e =>
   (s_law11_Own N e.Test).bind fun own =>
   gd (Nat.ble ((List.length ys + 1) * 88) 140737488355328) (
   gd (i64b (i + 1)) (
   next0 (i + 1) (ys ++ [(shape_Node.mk e.Kind e.Kids e.Lo e.Hi e.Var e.Type_ own)])))
  else
   some (shape_Pattern.mk ys y5 y6 y7)
def s_law13_Own (N : Nat) (p : shape_Pattern) : Option shape_Pattern :=
  lp2 (s_law13_Own_1 N p.Body p.Within p.By p.Mode) N 0 []
def s_shape_Node_list (N : Nat) (n : shape_Node) : Option Bool :=
  bif (n.Kind == 1) then
   some true
  else
   some (n.Kind == 2)
def s_shape_Node_stands (N : Nat) (n : shape_Node) (above : Int) : Option Bool :=
  bif (ltB n.Kind 1) then
   some false
  else
   bif (ltB 5 n.Kind) then
    some false
   else
    (s_shape_Node_list N n).bind fun list =>
    bif list then
     some (n.Kind != above)
    else
     bif (n.Kind != 5) then
      some true
     else
      some (above != 3)
def s_shape_Node_often (N : Nat) (n : shape_Node) : Option Bool :=
  bif (ltB n.Lo 0) then
   some false
  else
   bif (ltB 8 n.Lo) then
    some false
   else
    bif (ltB n.Hi 0) then
     some false
    else
     bif (ltB 8 n.Hi) then
      some false
     else
      bif (n.Lo == 1) then
       bif (n.Hi == 1) then
        some false
       else
        bif (n.Hi == 0) then
         some true
        else
         some (leB n.Lo n.Hi)
      else
       bif (n.Hi == 0) then
        some true
       else
        some (leB n.Lo n.Hi)
def s_shape_Node_lacks (N : Nat) (n : shape_Node) : Option Bool :=
  (s_shape_Node_list N n).bind fun list =>
  bif list then
   bif (ltB n.Kids 2) then
    some true
   else
    some (ltB 40 n.Kids)
  else
   bif (n.Kind == 3) then
    bif (n.Kids != 1) then
     some true
    else
     (s_shape_Node_often N n).bind fun ofte =>
     some (!ofte)
   else
    (s_schema_Name N n.Var).bind fun name =>
    bif (!name) then
     some true
    else
     (s_schema_Name N n.Type_).bind fun name2 =>
     bif (!name2) then
      some true
     else
      (s_pred_Check N n.Test).bind fun chec =>
      some (chec != 0)
def s_shape_Node_leaf (N : Nat) (n : shape_Node) : Option Bool :=
  bif (n.Kind == 4) then
   some true
  else
   some (n.Kind == 5)
def s_shape_Node_more (N : Nat) (n : shape_Node) : Option Bool :=
  bif (n.Lo != 0) then
   bif (!(n.Var == [])) then
    (s_shape_Node_leaf N n).bind fun leaf =>
    bif leaf then
     some true
    else
     some true
   else
    bif (!(n.Type_ == [])) then
     (s_shape_Node_leaf N n).bind fun leaf2 =>
     bif leaf2 then
      some true
     else
      some true
    else
     (s_shape_Node_leaf N n).bind fun leaf3 =>
     bif leaf3 then
      some true
     else
      bif (ltB 0 (List.length n.Test : Int)) then
       some true
      else
       some (n.Kind != 3)
  else
   bif (!(n.Var == [])) then
    (s_shape_Node_leaf N n).bind fun leaf4 =>
    bif leaf4 then
     bif (n.Hi != 0) then
      some true
     else
      some (n.Kids != 0)
    else
     some true
   else
    bif (!(n.Type_ == [])) then
     (s_shape_Node_leaf N n).bind fun leaf5 =>
     bif leaf5 then
      bif (n.Hi != 0) then
       some true
      else
       some (n.Kids != 0)
     else
      some true
    else
     (s_shape_Node_leaf N n).bind fun leaf6 =>
     bif leaf6 then
      bif (n.Hi != 0) then
       some true
      else
       some (n.Kids != 0)
     else
      bif (ltB 0 (List.length n.Test : Int)) then
       some true
      else
       bif (n.Hi != 0) then
        some (n.Kind != 3)
       else
        some false
def s_shape_Node_kids (N : Nat) (n : shape_Node) : Option Int :=
  (s_shape_Node_list N n).bind fun list =>
  bif list then
   some (max 0 (min n.Kids 40))
  else
   bif (n.Kind == 3) then
    some 1
   else
    some 0
abbrev TS_shape_tree : Type := ((List shape_Node) → Int → Int → Option (List shape_Node × Int))
def s_shape_tree_1 (N : Nat) (p : TS_shape_tree) (deep : Int) (kids : Int) (y : Int) (next1 : (List shape_Node) → Int → Option (List shape_Node × Int)) (rest : List shape_Node) (x : Int) : Option (List shape_Node × Int) :=
  bif (ltB x kids) then
   gd (i64b (deep + 1)) (
   (p rest y (deep + 1)).bind fun tree =>
   bif (tree.2 != 0) then
    some ([], tree.2)
   else
    gd (i64b (x + 1)) (
    next1 tree.1 (x + 1)))
  else
   some (rest, 0)
def b_shape_tree (N : Nat) (p : TS_shape_tree) (l : List shape_Node) (above : Int) (deep : Int) : Option (List shape_Node × Int) :=
  bif ((List.length l : Int) == 0) then
   some ([], 3)
  else
   bif (leB 16 deep) then
    some ([], 15)
   else
    (ix l 0).bind fun e =>
    (s_shape_Node_stands N e above).bind fun stan =>
    bif (!stan) then
     some ([], 11)
    else
     (ix l 0).bind fun e2 =>
     (s_shape_Node_lacks N e2).bind fun lack =>
     bif lack then
      some ([], 4)
     else
      (ix l 0).bind fun e3 =>
      (s_shape_Node_more N e3).bind fun more =>
      bif more then
       some ([], 2)
      else
       (ix l 0).bind fun e4 =>
       gd (leB 1 (List.length l : Int)) (
       (s_shape_Node_kids N e4).bind fun kids =>
       lp2 (s_shape_tree_1 N p deep kids e4.Kind) N (List.drop 1 l) 0)
def SS_shape_tree (N : Nat) : TS_shape_tree := Nat.rec (motive := fun _ => TS_shape_tree) (fun _ _ _ => none) (fun N p => (b_shape_tree N p)) N
def s_shape_tree (N : Nat) (l : List shape_Node) (above : Int) (deep : Int) : Option (List shape_Node × Int) := (SS_shape_tree N) l above deep
def s_shape_Word (N : Nat) (mode : Int) : Option (List UInt8) :=
  bif (mode == 1) then
   some [97, 110, 121]
  else
   bif (mode == 2) then
    some [110, 101, 120, 116]
   else
    bif (mode == 3) then
     some [115, 116, 114, 105, 99, 116]
    else
     some []
def s_shape_Check (N : Nat) (p : shape_Pattern) : Option Int :=
  bif (ltB 40 (List.length p.Body : Int)) then
   some 5
  else
   (s_shape_tree N p.Body 0 0).bind fun tree =>
   bif (tree.2 != 0) then
    some tree.2
   else
    bif (ltB 0 (List.length tree.1 : Int)) then
     some 5
    else
     bif (ltB p.Within 1) then
      some 8
     else
      bif (ltB 1073741824 p.Within) then
       some 8
      else
       bif (!(p.By == [])) then
        (s_schema_Name N p.By).bind fun name =>
        bif (!name) then
         some 4
        else
         (s_shape_Word N p.Mode).bind fun word =>
         bif (word == []) then
          some 11
         else
          some 0
       else
        (s_shape_Word N p.Mode).bind fun word2 =>
        bif (word2 == []) then
         some 11
        else
         some 0
def s_scope_leaf (N : Nat) (n : shape_Node) : Option Bool :=
  bif (n.Kind == 4) then
   some true
  else
   some (n.Kind == 5)
def s_scope_walker_choice_v240 (N : Nat) (y : List shape_Node) (y2 : List Int) (y3 : Int) (y4 : Bool) : Option (Int × List shape_Node × List Int × Int × Bool) :=
  bif (y3 == 200) then
   some (0, y, y2, y3, true)
  else
   gd (i64b (y3 + 1)) (
   bif (ltB (List.length y2 : Int) (y3 + 1)) then
    some (0, y, y2, (y3 + 1), y4)
   else
    gd (i64b ((y3 + 1) - 1)) (
    (ix y2 ((y3 + 1) - 1)).bind fun e =>
    some ((max 0 (min e 8)), y, y2, (y3 + 1), y4)))
def s_shape_Size_1 (N : Nat) (x : List shape_Node) (x2 : Int) (next0 : Int → Int → Option Int) (lack : Int) (x3 : Int) : Option Int :=
  bif (ltB x3 x2) then
   (ix x x3).bind fun e =>
   (s_shape_Node_kids N e).bind fun kids =>
   gd (i64b (kids - 1)) (
   gd (i64b (lack + (kids - 1))) (
   bif ((lack + (kids - 1)) == 0) then
    gd (i64b (x3 + 1)) (
    some (x3 + 1))
   else
    gd (i64b (x3 + 1)) (
    next0 (lack + (kids - 1)) (x3 + 1))))
  else
   some 0
def s_shape_Size (N : Nat) (l : List shape_Node) (vat : Int) : Option Int :=
  bif (ltB vat 0) then
   some 0
  else
   bif (leB (List.length l : Int) vat) then
    some 0
   else
    gd (leB 0 vat) (
    gd (leB vat (List.length l : Int)) (
    lp2 (s_shape_Size_1 N (List.drop (Int.toNat vat) l) (List.length (List.drop (Int.toNat vat) l) : Int)) N 1 0))
def s_scope_walker_choice_v758 (N : Nat) (y : List shape_Node) (y2 : List Int) (y3 : Int) (y4 : Bool) (xs : List Int) : Option (Int × List shape_Node × List Int × Int × Bool × List Int) :=
  bif (y3 == 200) then
   some (0, y, y2, y3, true, xs)
  else
   gd (i64b (y3 + 1)) (
   bif (ltB (List.length y2 : Int) (y3 + 1)) then
    some (0, y, y2, (y3 + 1), y4, xs)
   else
    gd (i64b ((y3 + 1) - 1)) (
    (ix y2 ((y3 + 1) - 1)).bind fun e =>
    some ((max 0 (min e 8)), y, y2, (y3 + 1), y4, xs)))
abbrev TS_scope_walker_tree_v950 : Type := (Int → (List shape_Node) → (List Int) → Int → Bool → (List Int) → Option ((List shape_Node × List Int × Int × Bool × List Int) ⊕ (List shape_Node × List Int × Int × Bool × List Int)))
def s_scope_walker_tree_v950_1 (N : Nat) (p : TS_scope_walker_tree_v950) (x : Int) (y5 : List shape_Node) (y6 : List Int) (y7 : Int) (y8 : Bool) (ys : List Int) (next3 : Int → Int → Option ((List shape_Node × List Int × Int × Bool × List Int) ⊕ (List shape_Node × List Int × Int × Bool × List Int))) (vnext : Int) (x2 : Int) : Option ((List shape_Node × List Int × Int × Bool × List Int) ⊕ (List shape_Node × List Int × Int × Bool × List Int)) :=
  bif (ltB x2 x) then
   (s_shape_Size N y5 vnext).bind fun size =>
   gd (i64b (vnext + size)) (
   gd (i64b (x2 + 1)) (
   next3 (vnext + size) (x2 + 1)))
  else
   (p vnext y5 y6 y7 y8 ys).bind fun x => Sum.elim
   (fun tree =>
    some (Sum.inl (tree.1, tree.2.1, tree.2.2.1, tree.2.2.2.1, tree.2.2.2.2)))
   (fun tree2 =>
    some (Sum.inr (tree2.1, tree2.2.1, tree2.2.2.1, tree2.2.2.2.1, tree2.2.2.2.2))) x
def s_scope_walker_tree_v950_2 (N : Nat) (p : TS_scope_walker_tree_v950) (vat : Int) (times : Int) (next5 : Int → (List shape_Node) → (List Int) → Int → Bool → (List Int) → Option ((List shape_Node × List Int × Int × Bool × List Int) ⊕ (List shape_Node × List Int × Int × Bool × List Int))) (i : Int) (y9 : List shape_Node) (y10 : List Int) (y11 : Int) (y12 : Bool) (ys2 : List Int) : Option ((List shape_Node × List Int × Int × Bool × List Int) ⊕ (List shape_Node × List Int × Int × Bool × List Int)) :=
  bif (ltB i times) then
   bif (!y12) then
    gd (i64b (vat + 1)) (
    (p (vat + 1) y9 y10 y11 y12 ys2).bind fun x => Sum.elim
    (fun tree3 =>
     gd (i64b (i + 1)) (
     next5 (i + 1) tree3.1 tree3.2.1 tree3.2.2.1 tree3.2.2.2.1 tree3.2.2.2.2))
    (fun tree4 =>
     gd (i64b (i + 1)) (
     next5 (i + 1) tree4.1 tree4.2.1 tree4.2.2.1 tree4.2.2.2.1 tree4.2.2.2.2)) x)
   else
    some (Sum.inr (y9, y10, y11, y12, ys2))
  else
   some (Sum.inr (y9, y10, y11, y12, ys2))
def s_scope_walker_tree_v950_3 (N : Nat) (p : TS_scope_walker_tree_v950) (y18 : Int) (next1 : Int → Int → (List shape_Node) → (List Int) → Int → Bool → (List Int) → Option ((List shape_Node × List Int × Int × Bool × List Int) ⊕ (List shape_Node × List Int × Int × Bool × List Int))) (vnext2 : Int) (i2 : Int) (y13 : List shape_Node) (y14 : List Int) (y15 : Int) (y16 : Bool) (ys3 : List Int) : Option ((List shape_Node × List Int × Int × Bool × List Int) ⊕ (List shape_Node × List Int × Int × Bool × List Int)) :=
  bif (ltB i2 y18) then
   bif (!y16) then
    (p vnext2 y13 y14 y15 y16 ys3).bind fun x => Sum.elim
    (fun tree5 =>
     (s_shape_Size N tree5.1 vnext2).bind fun size2 =>
     gd (i64b (vnext2 + size2)) (
     gd (i64b (i2 + 1)) (
     next1 (vnext2 + size2) (i2 + 1) tree5.1 tree5.2.1 tree5.2.2.1 tree5.2.2.2.1 tree5.2.2.2.2)))
    (fun tree6 =>
     (s_shape_Size N tree6.1 vnext2).bind fun size3 =>
     gd (i64b (vnext2 + size3)) (
     gd (i64b (i2 + 1)) (
     next1 (vnext2 + size3) (i2 + 1) tree6.1 tree6.2.1 tree6.2.2.1 tree6.2.2.2.1 tree6.2.2.2.2))) x
   else
    some (Sum.inr (y13, y14, y15, y16, ys3))
  else
   some (Sum.inr (y13, y14, y15, y16, ys3))
def b_scope_walker_tree_v950 (N : Nat) (p : TS_scope_walker_tree_v950) (vat : Int) (y : List shape_Node) (y2 : List Int) (y3 : Int) (y4 : Bool) (xs : List Int) : Option ((List shape_Node × List Int × Int × Bool × List Int) ⊕ (List shape_Node × List Int × Int × Bool × List Int)) :=
  (ix y vat).bind fun e =>
  bif y4 then
   some (Sum.inl (y, y2, y3, y4, xs))
  else
   (s_scope_leaf N e).bind fun leaf =>
   bif leaf then
    gd (Nat.ble ((List.length xs + 1) * 8) 140737488355328) (
    some (Sum.inr (y, y2, y3, ((List.length (xs ++ [vat]) : Int) == 100), (xs ++ [vat]))))
   else
    bif (e.Kind == 2) then
     gd (i64b (vat + 1)) (
     bothN EqR.cls 1 (
      (s_scope_walker_choice_v758 N y y2 y3 y4 xs).bind fun choi =>
      gd (e.Kids != 0) (
      lp2 (s_scope_walker_tree_v950_1 N p (Int.tmod choi.1 e.Kids) choi.2.1 choi.2.2.1 choi.2.2.2.1 choi.2.2.2.2.1 choi.2.2.2.2.2) N (vat + 1) 0)))
    else
     bif (e.Kind == 3) then
      bothN EqR.cls 1 (
       (s_scope_walker_choice_v758 N y y2 y3 y4 xs).bind fun choi3 =>
       gd (i64b (e.Lo + choi3.1)) (
       bif (ltB 0 e.Hi) then
        lp6 (s_scope_walker_tree_v950_2 N p vat (min (e.Lo + choi3.1) e.Hi)) N 0 choi3.2.1 choi3.2.2.1 choi3.2.2.2.1 choi3.2.2.2.2.1 choi3.2.2.2.2.2
       else
        lp6 (s_scope_walker_tree_v950_2 N p vat (e.Lo + choi3.1)) N 0 choi3.2.1 choi3.2.2.1 choi3.2.2.2.1 choi3.2.2.2.2.1 choi3.2.2.2.2.2))
     else
      gd (i64b (vat + 1)) (
      lp7 (s_scope_walker_tree_v950_3 N p e.Kids) N (vat + 1) 0 y y2 y3 y4 xs)
def SS_scope_walker_tree_v950 (N : Nat) : TS_scope_walker_tree_v950 := Nat.rec (motive := fun _ => TS_scope_walker_tree_v950) (fun _ _ _ _ _ _ => none) (fun N p => (b_scope_walker_tree_v950 N p)) N
def s_scope_walker_tree_v950 (N : Nat) (vat : Int) (y : List shape_Node) (y2 : List Int) (y3 : Int) (y4 : Bool) (xs : List Int) : Option ((List shape_Node × List Int × Int × Bool × List Int) ⊕ (List shape_Node × List Int × Int × Bool × List Int)) := (SS_scope_walker_tree_v950 N) vat y y2 y3 y4 xs
abbrev TS_scope_walker_tree_v577 : Type := (Int → (List shape_Node) → (List Int) → Int → Bool → Option ((List shape_Node × List Int × Int × Bool) ⊕ (List shape_Node × List Int × Int × Bool × List Int)))
def s_scope_walker_tree_v577_1 (N : Nat) (p : TS_scope_walker_tree_v577) (x : Int) (y5 : List shape_Node) (y6 : List Int) (y7 : Int) (y8 : Bool) (next3 : Int → Int → Option ((List shape_Node × List Int × Int × Bool) ⊕ (List shape_Node × List Int × Int × Bool × List Int))) (vnext : Int) (x2 : Int) : Option ((List shape_Node × List Int × Int × Bool) ⊕ (List shape_Node × List Int × Int × Bool × List Int)) :=
  bif (ltB x2 x) then
   (s_shape_Size N y5 vnext).bind fun size =>
   gd (i64b (vnext + size)) (
   gd (i64b (x2 + 1)) (
   next3 (vnext + size) (x2 + 1)))
  else
   (p vnext y5 y6 y7 y8).bind fun x => Sum.elim
   (fun tree =>
    some (Sum.inl (tree.1, tree.2.1, tree.2.2.1, tree.2.2.2)))
   (fun tree2 =>
    some (Sum.inr (tree2.1, tree2.2.1, tree2.2.2.1, tree2.2.2.2.1, tree2.2.2.2.2))) x
def s_scope_walker_tree_v577_2 (N : Nat) (p : TS_scope_walker_tree_v577) (vat : Int) (times : Int) (next5 : Int → (List shape_Node) → (List Int) → Int → Bool → (List Int) → Option ((List shape_Node × List Int × Int × Bool) ⊕ (List shape_Node × List Int × Int × Bool × List Int))) (i : Int) (y9 : List shape_Node) (y10 : List Int) (y11 : Int) (y12 : Bool) (ys : List Int) : Option ((List shape_Node × List Int × Int × Bool) ⊕ (List shape_Node × List Int × Int × Bool × List Int)) :=
  bif (ltB i times) then
   bif (!y12) then
    gd (i64b (vat + 1)) (
    (s_scope_walker_tree_v950 N (vat + 1) y9 y10 y11 y12 ys).bind fun x => Sum.elim
    (fun tree3 =>
     gd (i64b (i + 1)) (
     next5 (i + 1) tree3.1 tree3.2.1 tree3.2.2.1 tree3.2.2.2.1 tree3.2.2.2.2))
    (fun tree4 =>
     gd (i64b (i + 1)) (
     next5 (i + 1) tree4.1 tree4.2.1 tree4.2.2.1 tree4.2.2.2.1 tree4.2.2.2.2)) x)
   else
    some (Sum.inr (y9, y10, y11, y12, ys))
  else
   some (Sum.inr (y9, y10, y11, y12, ys))
def s_scope_walker_tree_v577_3 (N : Nat) (p : TS_scope_walker_tree_v577) (y18 : Int) (next1 : Int → Int → (List shape_Node) → (List Int) → Int → Bool → (List Int) → Option ((List shape_Node × List Int × Int × Bool) ⊕ (List shape_Node × List Int × Int × Bool × List Int))) (vnext2 : Int) (i2 : Int) (y13 : List shape_Node) (y14 : List Int) (y15 : Int) (y16 : Bool) (ys2 : List Int) : Option ((List shape_Node × List Int × Int × Bool) ⊕ (List shape_Node × List Int × Int × Bool × List Int)) :=
  bif (ltB i2 y18) then
   bif (!y16) then
    (s_scope_walker_tree_v950 N vnext2 y13 y14 y15 y16 ys2).bind fun x => Sum.elim
    (fun tree5 =>
     (s_shape_Size N tree5.1 vnext2).bind fun size2 =>
     gd (i64b (vnext2 + size2)) (
     gd (i64b (i2 + 1)) (
     next1 (vnext2 + size2) (i2 + 1) tree5.1 tree5.2.1 tree5.2.2.1 tree5.2.2.2.1 tree5.2.2.2.2)))
    (fun tree6 =>
     (s_shape_Size N tree6.1 vnext2).bind fun size3 =>
     gd (i64b (vnext2 + size3)) (
     gd (i64b (i2 + 1)) (
     next1 (vnext2 + size3) (i2 + 1) tree6.1 tree6.2.1 tree6.2.2.1 tree6.2.2.2.1 tree6.2.2.2.2))) x
   else
    some (Sum.inr (y13, y14, y15, y16, ys2))
  else
   some (Sum.inr (y13, y14, y15, y16, ys2))
def b_scope_walker_tree_v577 (N : Nat) (p : TS_scope_walker_tree_v577) (vat : Int) (y : List shape_Node) (y2 : List Int) (y3 : Int) (y4 : Bool) : Option ((List shape_Node × List Int × Int × Bool) ⊕ (List shape_Node × List Int × Int × Bool × List Int)) :=
  (ix y vat).bind fun e =>
  bif y4 then
   some (Sum.inl (y, y2, y3, y4))
  else
   (s_scope_leaf N e).bind fun leaf =>
   bif leaf then
    some (Sum.inr (y, y2, y3, false, [vat]))
   else
    bif (e.Kind == 2) then
     gd (i64b (vat + 1)) (
     bothN EqR.cls 1 (
      (s_scope_walker_choice_v240 N y y2 y3 y4).bind fun choi =>
      gd (e.Kids != 0) (
      lp2 (s_scope_walker_tree_v577_1 N p (Int.tmod choi.1 e.Kids) choi.2.1 choi.2.2.1 choi.2.2.2.1 choi.2.2.2.2) N (vat + 1) 0)))
    else
     bif (e.Kind == 3) then
      bothN EqR.cls 1 (
       (s_scope_walker_choice_v240 N y y2 y3 y4).bind fun choi3 =>
       gd (i64b (e.Lo + choi3.1)) (
       bif (ltB 0 e.Hi) then
        lp6 (s_scope_walker_tree_v577_2 N p vat (min (e.Lo + choi3.1) e.Hi)) N 0 choi3.2.1 choi3.2.2.1 choi3.2.2.2.1 choi3.2.2.2.2 []
       else
        lp6 (s_scope_walker_tree_v577_2 N p vat (e.Lo + choi3.1)) N 0 choi3.2.1 choi3.2.2.1 choi3.2.2.2.1 choi3.2.2.2.2 []))
     else
      gd (i64b (vat + 1)) (
      lp7 (s_scope_walker_tree_v577_3 N p e.Kids) N (vat + 1) 0 y y2 y3 y4 [])
def SS_scope_walker_tree_v577 (N : Nat) : TS_scope_walker_tree_v577 := Nat.rec (motive := fun _ => TS_scope_walker_tree_v577) (fun _ _ _ _ _ => none) (fun N p => (b_scope_walker_tree_v577 N p)) N
def s_scope_walker_tree_v577 (N : Nat) (vat : Int) (y : List shape_Node) (y2 : List Int) (y3 : Int) (y4 : Bool) : Option ((List shape_Node × List Int × Int × Bool) ⊕ (List shape_Node × List Int × Int × Bool × List Int)) := (SS_scope_walker_tree_v577 N) vat y y2 y3 y4
def s_scope_Walk (N : Nat) (p : shape_Pattern) (choices : List Int) : Option (List Int) :=
  (s_shape_Check N p).bind fun chec =>
  bif (chec != 0) then
   some []
  else
   (s_scope_walker_tree_v577 N 0 p.Body choices 0 false).bind fun x => Sum.elim
   (fun tree =>
    some [])
   (fun tree2 =>
    some tree2.2.2.2.2) x
def s_scope_id_L1_v579 (N : Nat) (n : shape_Node) (y : List UInt8) : Option (Bool × List UInt8) :=
  bif (n.Kind == 4) then
   some ((n.Var == y), y)
  else
   some (false, y)
def s_slices_IndexFunc_shape_Node_v289_1 (N : Nat) (s : List shape_Node) (x : Int) (next0 : Int → (List UInt8) → Option (Int × List UInt8)) (x2 : Int) (y2 : List UInt8) : Option (Int × List UInt8) :=
  bif (ltB x2 x) then
   (ix s x2).bind fun e =>
   (s_scope_id_L1_v579 N e y2).bind fun l =>
   bif l.1 then
    some (x2, l.2)
   else
    gd (i64b (x2 + 1)) (
    next0 (x2 + 1) l.2)
  else
   some ((-1), y2)
def s_slices_IndexFunc_shape_Node_v289 (N : Nat) (s : List shape_Node) (y : List UInt8) : Option (Int × List UInt8) :=
  lp2 (s_slices_IndexFunc_shape_Node_v289_1 N s (List.length s : Int)) N 0 y
def s_scope_id (N : Nat) (l : List shape_Node) (name : List UInt8) : Option Int :=
  (s_slices_IndexFunc_shape_Node_v289 N l name).bind fun node =>
  some node.1
def s_scope_kids (N : Nat) (n : shape_Node) : Option Int :=
  bif (n.Kind == 3) then
   some 1
  else
   some n.Kids
def s_scope_set_both_1 (N : Nat) (b : A40 Bool) (next0 : Int → (A40 Bool) → Option (A40 Bool)) (x : Int) (y : A40 Bool) : Option (A40 Bool) :=
  bif (ltB x 40) then
   gd (leB 0 x) (
   gd (ltB x 40) (
   (ix (A40.l y) x).bind fun e =>
   bif e then
    gd (leB 0 x) (
    gd (ltB x 40) (
    (ix (A40.l b) x).bind fun e2 =>
    gd (leB 0 x) (
    gd (ltB x 40) (
    (ix (A40.l y) x).bind fun e3 =>
    gd (i64b (x + 1)) (
    next0 (x + 1) (A40.set y x e2))))))
   else
    gd (leB 0 x) (
    gd (ltB x 40) (
    (ix (A40.l y) x).bind fun e4 =>
    gd (i64b (x + 1)) (
    next0 (x + 1) (A40.set y x false))))))
  else
   some y
def s_scope_set_both (N : Nat) (va : A40 Bool) (b : A40 Bool) : Option (A40 Bool) :=
  lp2 (s_scope_set_both_1 N b) N 0 va
abbrev TS_scope_flow_tree_v461 : Type := (Int → (A40 Bool) → (List shape_Node) → (A40 (A40 Bool)) → Option (A40 Bool × Int × List shape_Node × A40 (A40 Bool)))
def s_scope_flow_tree_v461_1 (N : Nat) (p : TS_scope_flow_tree_v461) (kids : Int) (ahead : A40 Bool) (y6 : Int) (y8 : Int) (next0 : Int → Int → (List shape_Node) → (A40 (A40 Bool)) → (A40 Bool) → Option (A40 Bool × Int × List shape_Node × A40 (A40 Bool))) (vnext : Int) (x : Int) (y3 : List shape_Node) (y4 : A40 (A40 Bool)) (y13 : A40 Bool) : Option (A40 Bool × Int × List shape_Node × A40 (A40 Bool)) :=
  bif (ltB x kids) then
   bif (y6 == 1) then
    (p vnext y13 y3 y4).bind fun tree =>
    bif (y6 == 2) then
     bif (ltB 0 x) then
      (s_scope_set_both N tree.1 y13).bind fun both =>
      gd (i64b (x + 1)) (
      next0 tree.2.1 (x + 1) tree.2.2.1 tree.2.2.2 both)
     else
      gd (i64b (x + 1)) (
      next0 tree.2.1 (x + 1) tree.2.2.1 tree.2.2.2 tree.1)
    else
     gd (i64b (x + 1)) (
     next0 tree.2.1 (x + 1) tree.2.2.1 tree.2.2.2 tree.1)
   else
    (p vnext ahead y3 y4).bind fun tree2 =>
    bif (y6 == 2) then
     bif (ltB 0 x) then
      (s_scope_set_both N tree2.1 y13).bind fun both2 =>
      gd (i64b (x + 1)) (
      next0 tree2.2.1 (x + 1) tree2.2.2.1 tree2.2.2.2 both2)
     else
      gd (i64b (x + 1)) (
      next0 tree2.2.1 (x + 1) tree2.2.2.1 tree2.2.2.2 tree2.1)
    else
     gd (i64b (x + 1)) (
     next0 tree2.2.1 (x + 1) tree2.2.2.1 tree2.2.2.2 tree2.1)
  else
   bif (y6 == 3) then
    bif (y8 == 0) then
     some (ahead, vnext, y3, y4)
    else
     some (y13, vnext, y3, y4)
   else
    some (y13, vnext, y3, y4)
def b_scope_flow_tree_v461 (N : Nat) (p : TS_scope_flow_tree_v461) (vat : Int) (ahead : A40 Bool) (y : List shape_Node) (y2 : A40 (A40 Bool)) : Option (A40 Bool × Int × List shape_Node × A40 (A40 Bool)) :=
  (ix y vat).bind fun e =>
  (s_scope_leaf N e).bind fun leaf =>
  bif leaf then
   gd (leB 0 vat) (
   gd (ltB vat 40) (
   (ix (A40.l y2) vat).bind fun e2 =>
   bif (e.Kind == 4) then
    (s_scope_id N y e.Var).bind fun id =>
    gd (leB 0 id) (
    gd (ltB id 40) (
    (ix (A40.l ahead) id).bind fun e3 =>
    gd (i64b (vat + 1)) (
    some ((A40.set ahead id true), (vat + 1), y, (A40.set y2 vat ahead)))))
   else
    gd (i64b (vat + 1)) (
    some (ahead, (vat + 1), y, (A40.set y2 vat ahead)))))
  else
   gd (i64b (vat + 1)) (
   (s_scope_kids N e).bind fun kids =>
   lp5 (s_scope_flow_tree_v461_1 N p kids ahead e.Kind e.Lo) N (vat + 1) 0 y y2 ahead)
def SS_scope_flow_tree_v461 (N : Nat) : TS_scope_flow_tree_v461 := Nat.rec (motive := fun _ => TS_scope_flow_tree_v461) (fun _ _ _ _ => none) (fun N p => (b_scope_flow_tree_v461 N p)) N
def s_scope_flow_tree_v461 (N : Nat) (vat : Int) (ahead : A40 Bool) (y : List shape_Node) (y2 : A40 (A40 Bool)) : Option (A40 Bool × Int × List shape_Node × A40 (A40 Bool)) := (SS_scope_flow_tree_v461 N) vat ahead y y2
def s_scope_sure (N : Nat) (l : List shape_Node) : Option (List shape_Node × A40 (A40 Bool)) :=
  (s_scope_flow_tree_v461 N 0 (A40.c false) l (A40.c (A40.c false))).bind fun tree =>
  some (tree.2.2.1, tree.2.2.2)
def sortS (l : List (List UInt8)) : List (List UInt8) := l.mergeSort fun x y => decide (x ≤ y)
def s_slices_Sort_string_v986 (N : Nat) (xs : List (List UInt8)) : Option (List (List UInt8)) := gd (Nat.ble xs.length 4611686018427387903) (some (sortS xs))
def s_scope_Bound_1 (N : Nat) (e2 : A40 Bool) (y : List shape_Node) (next0 : Int → (List (List UInt8)) → Option (List (List UInt8))) (x : Int) (ys : List (List UInt8)) : Option (List (List UInt8)) :=
  bif (ltB x 40) then
   (ix (A40.l e2) x).bind fun e3 =>
   bif e3 then
    (ix y x).bind fun e4 =>
    gd (Nat.ble ((List.length ys + 1) * 16) 140737488355328) (
    gd (i64b (x + 1)) (
    next0 (x + 1) (ys ++ [e4.Var])))
   else
    gd (i64b (x + 1)) (
    next0 (x + 1) ys)
  else
   (s_slices_Sort_string_v986 N ys).bind fun stri =>
   some stri
def s_scope_Bound (N : Nat) (p : shape_Pattern) (vat : Int) : Option (List (List UInt8)) :=
  (s_shape_Check N p).bind fun chec =>
  bif (chec != 0) then
   some []
  else
   bif (ltB vat 0) then
    some []
   else
    bif (leB (List.length p.Body : Int) vat) then
     some []
    else
     (ix p.Body vat).bind fun e =>
     (s_scope_leaf N e).bind fun leaf =>
     bif (!leaf) then
      some []
     else
      (s_scope_sure N p.Body).bind fun sure =>
      gd (leB 0 vat) (
      gd (ltB vat 40) (
      (ix (A40.l sure.2) vat).bind fun e2 =>
      lp2 (s_scope_Bound_1 N e2 p.Body) N 0 []))
def s_law15_ScopeSure_3 (N : Nat) (walk : List Int) (i : Int) (boun : List (List UInt8)) (k : Int) (y : List shape_Node) (next2 : Int → Option Bool) (next4 : Bool → Int → Option Bool) (passed : Bool) (m : Int) : Option Bool :=
  bif (ltB m i) then
   (ix walk m).bind fun e6 =>
   (ix y e6).bind fun e7 =>
   bif passed then
    gd (i64b (m + 1)) (
    next4 true (m + 1))
   else
    bif (e7.Kind == 4) then
     (ix boun k).bind fun e8 =>
     gd (i64b (m + 1)) (
     next4 (e7.Var == e8) (m + 1))
    else
     gd (i64b (m + 1)) (
     next4 false (m + 1))
  else
   bif (!passed) then
    some false
   else
    gd (i64b (k + 1)) (
    next2 (k + 1))
def s_law15_ScopeSure_2 (N : Nat) (walk : List Int) (i : Int) (boun : List (List UInt8)) (y : List shape_Node) (next0 : Int → Option Bool) (next2 : Int → Option Bool) (k : Int) : Option Bool :=
  bif (ltB k (List.length boun : Int)) then
   lp2 (s_law15_ScopeSure_3 N walk i boun k y next2) N false 0
  else
   gd (i64b (i + 1)) (
   next0 (i + 1))
def s_law15_ScopeSure_1 (N : Nat) (walk : List Int) (y : List shape_Node) (y2 : Int) (y3 : List UInt8) (y4 : Int) (next0 : Int → Option Bool) (i : Int) : Option Bool :=
  bif (ltB i (List.length walk : Int)) then
   (ix walk i).bind fun e =>
   bif (ltB e 0) then
    some false
   else
    (ix walk i).bind fun e2 =>
    bif (leB (List.length y : Int) e2) then
     some false
    else
     (ix walk i).bind fun e3 =>
     (ix y e3).bind fun e4 =>
     bif (ltB e4.Kind 4) then
      some false
     else
      (ix walk i).bind fun e5 =>
      (s_scope_Bound N (shape_Pattern.mk y y2 y3 y4) e5).bind fun boun =>
      lp1 (s_law15_ScopeSure_2 N walk i boun y next0) N 0
  else
   (s_law15_awake N).bind fun awak3 =>
   some awak3
def s_law15_ScopeSure (N : Nat) (p : shape_Pattern) (choices : List Int) : Option Bool :=
  (s_law13_Over N p).bind fun over =>
  bif (ltB 0 over) then
   (s_law15_awake N).bind fun awak =>
   some awak
  else
   bif (ltB 300 (List.length choices : Int)) then
    (s_law15_awake N).bind fun awak2 =>
    some awak2
   else
    (s_law13_Own N p).bind fun own =>
    (s_scope_Walk N own choices).bind fun walk =>
    lp1 (s_law15_ScopeSure_1 N walk own.Body own.Within own.By own.Mode) N 0
end
end
end Go.Proofs.YtbioikdfpfafaaaGreatDoor.W
