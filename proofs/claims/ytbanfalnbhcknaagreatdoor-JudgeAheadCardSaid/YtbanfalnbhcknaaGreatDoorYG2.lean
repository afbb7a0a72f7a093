/- The code, and what each function of it is walked to. No premise beyond what each theorem says. -/
import Derived.Test.YtbanfalnbhcknaaGreatDoorYG1
set_option linter.all false
set_option linter.unusedSimpArgs false
set_option linter.unusedVariables false
namespace Go.Proofs.YtbanfalnbhcknaaGreatDoor.Y
open Go
section
open Go.Proofs.Tryz
set_option maxRecDepth 1000000
noncomputable section
theorem hm : prog.follows .mixedOrders = true := by kernel_rfl
def eA0 (x : value_Value) : AV := .agg [.v (.int .u8 x.Kind), .v (.int .i64 x.N), .v (.int .u64 x.Bits), .v (.string (bs x.Text))]
def eA1 (x : bind_Pair) : AV := .agg [.v (.string (bs x.Var)), .v (.int .i64 x.E.Time), .v (.int .i64 x.E.Source), .v (.int .i64 x.E.Seq), .v (.string (bs x.E.Type_)), .sl 4 (List.map eA0 x.E.Vals)]
def eA2 (x : schema_Field) : AV := .agg [.v (.string (bs x.Name)), .v (.int .u8 x.Kind)]
def eA3 (x : schema_Type) : AV := .agg [.v (.string (bs x.Name)), .sl 2 (List.map eA2 x.Fields)]
def eA4 (x : pred_Node) : AV := .agg [.v (.int .u8 x.Kind), .v (.int .u8 x.Op), .v (.string (bs x.Var)), .v (.string (bs x.Name)), .v (.int .u8 x.Val.Kind), .v (.int .i64 x.Val.N), .v (.int .u64 x.Val.Bits), .v (.string (bs x.Val.Text))]
def eA5 (x : List pred_Node) : AV := .sl 8 (List.map eA4 x)
def eA6 (x : List UInt8) : AV := .v (.string (bs x))
def eA7 (x : lex_Token) : AV := .agg [.v (.int .u8 x.Kind), .v (.int .i64 x.At), .v (.string (bs x.Text)), .v (.int .u8 x.Val.Kind), .v (.int .i64 x.Val.N), .v (.int .u64 x.Val.Bits), .v (.string (bs x.Val.Text))]
def eA8 (x : event_Event) : AV := .agg [.v (.int .i64 x.Time), .v (.int .i64 x.Source), .v (.int .i64 x.Seq), .v (.string (bs x.Type_)), .sl 4 (List.map eA0 x.Vals)]
def eA9 (x : ref20_Scene) : AV := .agg [.sl 2 (List.map eA3 x.Types), .sl 6 (List.map eA1 x.Bound), .v (.int .i64 x.E.Time), .v (.int .i64 x.E.Source), .v (.int .i64 x.E.Seq), .v (.string (bs x.E.Type_)), .sl 4 (List.map eA0 x.E.Vals)]
def eX10 : judge_side → AV
  | .lit_ y0 => .ifc 132 (.agg [.v (.int .u8 y0.Kind), .v (.int .i64 y0.N), .v (.int .u64 y0.Bits), .v (.string (bs y0.Text))])
  | .of_ y0 y1 => .ifc 136 (.agg [.v (.string (bs y0)), .v (.string (bs y1))])
  | .own_ y0 => .ifc 134 (.agg [.v (.string (bs y0))])
  | .sum_ y0 y1 y2 => .ifc 138 (.agg [.v (.bool y0), .opq (eX10 y1), .opq (eX10 y2)])
def eA10 (x : judge_side) : AV := .opq (eX10 x)
def eX11 : judge_truth → AV
  | .and_ y0 y1 => .ifc 125 (.agg [.opq (eX11 y0), .opq (eX11 y1)])
  | .not_ y0 => .ifc 128 (.agg [.opq (eX11 y0)])
  | .or_ y0 y1 => .ifc 126 (.agg [.opq (eX11 y0), .opq (eX11 y1)])
  | .test_ y0 y1 y2 => .ifc 130 (.agg [.v (.int .u8 y0), .opq (eX10 y1), .opq (eX10 y2)])
def eA11 (x : judge_truth) : AV := .opq (eX11 x)
def eA12 (x : judge_lit) : AV := .agg [.v (.int .u8 x.v.Kind), .v (.int .i64 x.v.N), .v (.int .u64 x.v.Bits), .v (.string (bs x.v.Text))]
def eA13 (x : judge_of) : AV := .agg [.v (.string (bs x.name)), .v (.string (bs x.field))]
def eA14 (x : judge_own) : AV := .agg [.v (.string (bs x.name))]
def eA15 (x : judge_sum) : AV := .agg [.v (.bool x.minus), .opq (eX10 x.a), .opq (eX10 x.b)]
def eA16 (x : judge_test) : AV := .agg [.v (.int .u8 x.op), .opq (eX10 x.a), .opq (eX10 x.b)]
def eA17 (x : judge_and) : AV := .agg [.opq (eX11 x.a), .opq (eX11 x.b)]
def eA18 (x : judge_not) : AV := .agg [.opq (eX11 x.a)]
abbrev T : Nat → Type
  | 0 => value_Value
  | 1 => bind_Pair
  | 2 => schema_Field
  | 3 => schema_Type
  | 4 => pred_Node
  | 5 => List pred_Node
  | 6 => List UInt8
  | 7 => lex_Token
  | 8 => event_Event
  | 9 => ref20_Scene
  | 10 => judge_side
  | 11 => judge_truth
  | 12 => judge_lit
  | 13 => judge_of
  | 14 => judge_own
  | 15 => judge_sum
  | 16 => judge_test
  | 17 => judge_and
  | 18 => judge_not
  | _ => Unit
def enc : (i : Nat) → T i → List (BV T)
  | 0 => fun (x : value_Value) => [.int .u8 x.Kind, .int .i64 x.N, .int .u64 x.Bits, .str x.Text]
  | 1 => fun (x : bind_Pair) => [.str x.Var, .int .i64 x.E.Time, .int .i64 x.E.Source, .int .i64 x.E.Seq, .str x.E.Type_, .sl 0 x.E.Vals]
  | 2 => fun (x : schema_Field) => [.str x.Name, .int .u8 x.Kind]
  | 3 => fun (x : schema_Type) => [.str x.Name, .sl 2 x.Fields]
  | 4 => fun (x : pred_Node) => [.int .u8 x.Kind, .int .u8 x.Op, .str x.Var, .str x.Name, .int .u8 x.Val.Kind, .int .i64 x.Val.N, .int .u64 x.Val.Bits, .str x.Val.Text]
  | 5 => fun (x : List pred_Node) => [.sl 4 x]
  | 6 => fun (x : List UInt8) => [.str x]
  | 7 => fun (x : lex_Token) => [.int .u8 x.Kind, .int .i64 x.At, .str x.Text, .int .u8 x.Val.Kind, .int .i64 x.Val.N, .int .u64 x.Val.Bits, .str x.Val.Text]
  | 8 => fun (x : event_Event) => [.int .i64 x.Time, .int .i64 x.Source, .int .i64 x.Seq, .str x.Type_, .sl 0 x.Vals]
  | 9 => fun (x : ref20_Scene) => [.sl 3 x.Types, .sl 1 x.Bound, .int .i64 x.E.Time, .int .i64 x.E.Source, .int .i64 x.E.Seq, .str x.E.Type_, .sl 0 x.E.Vals]
  | 10 => fun (x : judge_side) => [.tr 10 x]
  | 11 => fun (x : judge_truth) => [.tr 11 x]
  | 12 => fun (x : judge_lit) => [.int .u8 x.v.Kind, .int .i64 x.v.N, .int .u64 x.v.Bits, .str x.v.Text]
  | 13 => fun (x : judge_of) => [.str x.name, .str x.field]
  | 14 => fun (x : judge_own) => [.str x.name]
  | 15 => fun (x : judge_sum) => [.bool x.minus, .tr 10 x.a, .tr 10 x.b]
  | 16 => fun (x : judge_test) => [.int .u8 x.op, .tr 10 x.a, .tr 10 x.b]
  | 17 => fun (x : judge_and) => [.tr 11 x.a, .tr 11 x.b]
  | 18 => fun (x : judge_not) => [.tr 11 x.a]
  | _ => fun _ => []
def dec0 : List (BV T) → Option value_Value := P1 (asInt .u8) fun a0 => P1 (asInt .i64) fun a1 => P1 (asInt .u64) fun a2 => P1 asStr fun a3 => P0 (⟨a0, a1, a2, a3⟩ : value_Value)
def dec1 : List (BV T) → Option bind_Pair := P1 asStr fun a0 => P1 (asInt .i64) fun a1 => P1 (asInt .i64) fun a2 => P1 (asInt .i64) fun a3 => P1 asStr fun a4 => P1 (asRow 0) fun a5 => P0 (⟨a0, ⟨a1, a2, a3, a4, a5⟩⟩ : bind_Pair)
def dec2 : List (BV T) → Option schema_Field := P1 asStr fun a0 => P1 (asInt .u8) fun a1 => P0 (⟨a0, a1⟩ : schema_Field)
def dec3 : List (BV T) → Option schema_Type := P1 asStr fun a0 => P1 (asRow 2) fun a1 => P0 (⟨a0, a1⟩ : schema_Type)
def dec4 : List (BV T) → Option pred_Node := P1 (asInt .u8) fun a0 => P1 (asInt .u8) fun a1 => P1 asStr fun a2 => P1 asStr fun a3 => P1 (asInt .u8) fun a4 => P1 (asInt .i64) fun a5 => P1 (asInt .u64) fun a6 => P1 asStr fun a7 => P0 (⟨a0, a1, a2, a3, ⟨a4, a5, a6, a7⟩⟩ : pred_Node)
def dec5 : List (BV T) → Option (List pred_Node) := P1 (asRow 4) fun a0 => P0 (a0 : List pred_Node)
def dec6 : List (BV T) → Option (List UInt8) := P1 asStr fun a0 => P0 (a0 : List UInt8)
def dec7 : List (BV T) → Option lex_Token := P1 (asInt .u8) fun a0 => P1 (asInt .i64) fun a1 => P1 asStr fun a2 => P1 (asInt .u8) fun a3 => P1 (asInt .i64) fun a4 => P1 (asInt .u64) fun a5 => P1 asStr fun a6 => P0 (⟨a0, a1, a2, ⟨a3, a4, a5, a6⟩⟩ : lex_Token)
def dec8 : List (BV T) → Option event_Event := P1 (asInt .i64) fun a0 => P1 (asInt .i64) fun a1 => P1 (asInt .i64) fun a2 => P1 asStr fun a3 => P1 (asRow 0) fun a4 => P0 (⟨a0, a1, a2, a3, a4⟩ : event_Event)
def dec9 : List (BV T) → Option ref20_Scene := P1 (asRow 3) fun a0 => P1 (asRow 1) fun a1 => P1 (asInt .i64) fun a2 => P1 (asInt .i64) fun a3 => P1 (asInt .i64) fun a4 => P1 asStr fun a5 => P1 (asRow 0) fun a6 => P0 (⟨a0, a1, ⟨a2, a3, a4, a5, a6⟩⟩ : ref20_Scene)
def dec10 : List (BV T) → Option judge_side
  | [.tr j x] => castT j 10 x
  | _ => none
def fd10 (t : TypeId) (v : BV T) : Option judge_side := match Nat.beq t 132 with
    | true => (match v with | .agg cs => (P1 (asInt .u8) fun a0 => P1 (asInt .i64) fun a1 => P1 (asInt .u64) fun a2 => P1 asStr fun a3 => P0 (.lit_ ⟨a0, a1, a2, a3⟩ : judge_side)) cs | _ => none)
    | false => match Nat.beq t 136 with
    | true => (match v with | .agg cs => (P1 asStr fun a0 => P1 asStr fun a1 => P0 (.of_ a0 a1 : judge_side)) cs | _ => none)
    | false => match Nat.beq t 134 with
    | true => (match v with | .agg cs => (P1 asStr fun a0 => P0 (.own_ a0 : judge_side)) cs | _ => none)
    | false => match Nat.beq t 138 with
    | true => (match v with | .agg cs => (P1 asBool fun a0 => P1 (asTr 10) fun a1 => P1 (asTr 10) fun a2 => P0 (.sum_ a0 a1 a2 : judge_side)) cs | _ => none)
    | false => none
def dec11 : List (BV T) → Option judge_truth
  | [.tr j x] => castT j 11 x
  | _ => none
def fd11 (t : TypeId) (v : BV T) : Option judge_truth := match Nat.beq t 125 with
    | true => (match v with | .agg cs => (P1 (asTr 11) fun a0 => P1 (asTr 11) fun a1 => P0 (.and_ a0 a1 : judge_truth)) cs | _ => none)
    | false => match Nat.beq t 128 with
    | true => (match v with | .agg cs => (P1 (asTr 11) fun a0 => P0 (.not_ a0 : judge_truth)) cs | _ => none)
    | false => match Nat.beq t 126 with
    | true => (match v with | .agg cs => (P1 (asTr 11) fun a0 => P1 (asTr 11) fun a1 => P0 (.or_ a0 a1 : judge_truth)) cs | _ => none)
    | false => match Nat.beq t 130 with
    | true => (match v with | .agg cs => (P1 (asInt .u8) fun a0 => P1 (asTr 10) fun a1 => P1 (asTr 10) fun a2 => P0 (.test_ a0 a1 a2 : judge_truth)) cs | _ => none)
    | false => none
def dec12 : List (BV T) → Option judge_lit := P1 (asInt .u8) fun a0 => P1 (asInt .i64) fun a1 => P1 (asInt .u64) fun a2 => P1 asStr fun a3 => P0 (⟨⟨a0, a1, a2, a3⟩⟩ : judge_lit)
def dec13 : List (BV T) → Option judge_of := P1 asStr fun a0 => P1 asStr fun a1 => P0 (⟨a0, a1⟩ : judge_of)
def dec14 : List (BV T) → Option judge_own := P1 asStr fun a0 => P0 (⟨a0⟩ : judge_own)
def dec15 : List (BV T) → Option judge_sum := P1 asBool fun a0 => P1 (asTr 10) fun a1 => P1 (asTr 10) fun a2 => P0 (⟨a0, a1, a2⟩ : judge_sum)
def dec16 : List (BV T) → Option judge_test := P1 (asInt .u8) fun a0 => P1 (asTr 10) fun a1 => P1 (asTr 10) fun a2 => P0 (⟨a0, a1, a2⟩ : judge_test)
def dec17 : List (BV T) → Option judge_and := P1 (asTr 11) fun a0 => P1 (asTr 11) fun a1 => P0 (⟨a0, a1⟩ : judge_and)
def dec18 : List (BV T) → Option judge_not := P1 (asTr 11) fun a0 => P0 (⟨a0⟩ : judge_not)
def dec : (i : Nat) → List (BV T) → Option (T i)
  | 0 => dec0
  | 1 => dec1
  | 2 => dec2
  | 3 => dec3
  | 4 => dec4
  | 5 => dec5
  | 6 => dec6
  | 7 => dec7
  | 8 => dec8
  | 9 => dec9
  | 10 => dec10
  | 11 => dec11
  | 12 => dec12
  | 13 => dec13
  | 14 => dec14
  | 15 => dec15
  | 16 => dec16
  | 17 => dec17
  | 18 => dec18
  | _ => fun _ => none
def eA : (i : Nat) → T i → AV
  | 0 => eA0
  | 1 => eA1
  | 2 => eA2
  | 3 => eA3
  | 4 => eA4
  | 5 => eA5
  | 6 => eA6
  | 7 => eA7
  | 8 => eA8
  | 9 => eA9
  | 10 => eA10
  | 11 => eA11
  | 12 => eA12
  | 13 => eA13
  | 14 => eA14
  | 15 => eA15
  | 16 => eA16
  | 17 => eA17
  | 18 => eA18
  | _ => fun _ => .agg []
def eX : (i : Nat) → T i → AV
  | 10 => eX10
  | 11 => eX11
  | _ => fun _ => .any
def el10 (x : judge_side) (R : Type) (K : BV T → Option R) : Option R := match x with
  | .lit_ y0 => K (.ifc 132 (.agg [.int .u8 y0.Kind, .int .i64 y0.N, .int .u64 y0.Bits, .str y0.Text]))
  | .of_ y0 y1 => K (.ifc 136 (.agg [.str y0, .str y1]))
  | .own_ y0 => K (.ifc 134 (.agg [.str y0]))
  | .sum_ y0 y1 y2 => K (.ifc 138 (.agg [.bool y0, .tr 10 y1, .tr 10 y2]))
def el11 (x : judge_truth) (R : Type) (K : BV T → Option R) : Option R := match x with
  | .and_ y0 y1 => K (.ifc 125 (.agg [.tr 11 y0, .tr 11 y1]))
  | .not_ y0 => K (.ifc 128 (.agg [.tr 11 y0]))
  | .or_ y0 y1 => K (.ifc 126 (.agg [.tr 11 y0, .tr 11 y1]))
  | .test_ y0 y1 y2 => K (.ifc 130 (.agg [.int .u8 y0, .tr 10 y1, .tr 10 y2]))
def el : (i : Nat) → T i → (R : Type) → (BV T → Option R) → Option R
  | 10 => el10
  | 11 => el11
  | _ => fun _ _ _ => none
def fd : (i : Nat) → TypeId → BV T → Option (T i)
  | 10 => fd10
  | 11 => fd11
  | _ => fun _ _ => none
def fol : List (Nat × Nat) := [(132, 10), (136, 10), (134, 10), (138, 10), (125, 11), (128, 11), (126, 11), (130, 11)]
def tb : Tb T := {k := fun i => [4, 6, 2, 2, 8, 1, 1, 7, 5, 7, 1, 1, 4, 2, 1, 3, 3, 2, 1].getD i 0, ag := fun i => [true, true, true, true, true, false, false, true, true, true, false, false, true, true, true, true, true, true, true].getD i true, eA, enc, dec, eX, el, fo := hintOf fol, fd}
def sbf (k : Nat) : Option (List UInt8 → (i : Nat) × List (T i)) := none
theorem sb_ok (k : Nat) (f : List UInt8 → (i : Nat) × List (T i)) (s : List UInt8) (h : sbf k = some f) : k = 1 ∧ tb.k (f s).1 = 1 ∧ (f s).2.map (tb.eA (f s).1) = s.map byteV := by cases h
def bof (i : Nat) (_ : List (T i)) : Option (List UInt8) := none
theorem bo_ok (i : Nat) (l : List (T i)) (s : List UInt8) (h : bof i l = some s) : tb.k i = 1 ∧ ∃ m : List Int, l.map (tb.eA i) = m.map u8V ∧ s = byS m := by cases h
theorem dec0_ok (cs : List (BV T)) (x : value_Value) (h : dec0 cs = some x) : LWs (BV.avs tb cs) (eA0 x).cells := by
  obtain ⟨c0, r0, a0, rfl, h0, h⟩ := P1_some h
  obtain ⟨c1, r1, a1, rfl, h1, h⟩ := P1_some h
  obtain ⟨c2, r2, a2, rfl, h2, h⟩ := P1_some h
  obtain ⟨c3, r3, a3, rfl, h3, h⟩ := P1_some h
  obtain ⟨rfl, rfl⟩ := P0_some h
  exact .cons (asInt_lw h0) (.cons (asInt_lw h1) (.cons (asInt_lw h2) (.cons (asStr_lw h3) (.nil))))
theorem dec1_ok (cs : List (BV T)) (x : bind_Pair) (h : dec1 cs = some x) : LWs (BV.avs tb cs) (eA1 x).cells := by
  obtain ⟨c0, r0, a0, rfl, h0, h⟩ := P1_some h
  obtain ⟨c1, r1, a1, rfl, h1, h⟩ := P1_some h
  obtain ⟨c2, r2, a2, rfl, h2, h⟩ := P1_some h
  obtain ⟨c3, r3, a3, rfl, h3, h⟩ := P1_some h
  obtain ⟨c4, r4, a4, rfl, h4, h⟩ := P1_some h
  obtain ⟨c5, r5, a5, rfl, h5, h⟩ := P1_some h
  obtain ⟨rfl, rfl⟩ := P0_some h
  exact .cons (asStr_lw h0) (.cons (asInt_lw h1) (.cons (asInt_lw h2) (.cons (asInt_lw h3) (.cons (asStr_lw h4) (.cons (asRow_ok h5) (.nil))))))
theorem dec2_ok (cs : List (BV T)) (x : schema_Field) (h : dec2 cs = some x) : LWs (BV.avs tb cs) (eA2 x).cells := by
  obtain ⟨c0, r0, a0, rfl, h0, h⟩ := P1_some h
  obtain ⟨c1, r1, a1, rfl, h1, h⟩ := P1_some h
  obtain ⟨rfl, rfl⟩ := P0_some h
  exact .cons (asStr_lw h0) (.cons (asInt_lw h1) (.nil))
theorem dec3_ok (cs : List (BV T)) (x : schema_Type) (h : dec3 cs = some x) : LWs (BV.avs tb cs) (eA3 x).cells := by
  obtain ⟨c0, r0, a0, rfl, h0, h⟩ := P1_some h
  obtain ⟨c1, r1, a1, rfl, h1, h⟩ := P1_some h
  obtain ⟨rfl, rfl⟩ := P0_some h
  exact .cons (asStr_lw h0) (.cons (asRow_ok h1) (.nil))
theorem dec4_ok (cs : List (BV T)) (x : pred_Node) (h : dec4 cs = some x) : LWs (BV.avs tb cs) (eA4 x).cells := by
  obtain ⟨c0, r0, a0, rfl, h0, h⟩ := P1_some h
  obtain ⟨c1, r1, a1, rfl, h1, h⟩ := P1_some h
  obtain ⟨c2, r2, a2, rfl, h2, h⟩ := P1_some h
  obtain ⟨c3, r3, a3, rfl, h3, h⟩ := P1_some h
  obtain ⟨c4, r4, a4, rfl, h4, h⟩ := P1_some h
  obtain ⟨c5, r5, a5, rfl, h5, h⟩ := P1_some h
  obtain ⟨c6, r6, a6, rfl, h6, h⟩ := P1_some h
  obtain ⟨c7, r7, a7, rfl, h7, h⟩ := P1_some h
  obtain ⟨rfl, rfl⟩ := P0_some h
  exact .cons (asInt_lw h0) (.cons (asInt_lw h1) (.cons (asStr_lw h2) (.cons (asStr_lw h3) (.cons (asInt_lw h4) (.cons (asInt_lw h5) (.cons (asInt_lw h6) (.cons (asStr_lw h7) (.nil))))))))
theorem dec5_ok (cs : List (BV T)) (x : List pred_Node) (h : dec5 cs = some x) : LWs (BV.avs tb cs) (eA5 x).cells := by
  obtain ⟨c0, r0, a0, rfl, h0, h⟩ := P1_some h
  obtain ⟨rfl, rfl⟩ := P0_some h
  exact .cons (asRow_ok h0) (.nil)
theorem dec6_ok (cs : List (BV T)) (x : List UInt8) (h : dec6 cs = some x) : LWs (BV.avs tb cs) (eA6 x).cells := by
  obtain ⟨c0, r0, a0, rfl, h0, h⟩ := P1_some h
  obtain ⟨rfl, rfl⟩ := P0_some h
  exact .cons (asStr_lw h0) (.nil)
theorem dec7_ok (cs : List (BV T)) (x : lex_Token) (h : dec7 cs = some x) : LWs (BV.avs tb cs) (eA7 x).cells := by
  obtain ⟨c0, r0, a0, rfl, h0, h⟩ := P1_some h
  obtain ⟨c1, r1, a1, rfl, h1, h⟩ := P1_some h
  obtain ⟨c2, r2, a2, rfl, h2, h⟩ := P1_some h
  obtain ⟨c3, r3, a3, rfl, h3, h⟩ := P1_some h
  obtain ⟨c4, r4, a4, rfl, h4, h⟩ := P1_some h
  obtain ⟨c5, r5, a5, rfl, h5, h⟩ := P1_some h
  obtain ⟨c6, r6, a6, rfl, h6, h⟩ := P1_some h
  obtain ⟨rfl, rfl⟩ := P0_some h
  exact .cons (asInt_lw h0) (.cons (asInt_lw h1) (.cons (asStr_lw h2) (.cons (asInt_lw h3) (.cons (asInt_lw h4) (.cons (asInt_lw h5) (.cons (asStr_lw h6) (.nil)))))))
theorem dec8_ok (cs : List (BV T)) (x : event_Event) (h : dec8 cs = some x) : LWs (BV.avs tb cs) (eA8 x).cells := by
  obtain ⟨c0, r0, a0, rfl, h0, h⟩ := P1_some h
  obtain ⟨c1, r1, a1, rfl, h1, h⟩ := P1_some h
  obtain ⟨c2, r2, a2, rfl, h2, h⟩ := P1_some h
  obtain ⟨c3, r3, a3, rfl, h3, h⟩ := P1_some h
  obtain ⟨c4, r4, a4, rfl, h4, h⟩ := P1_some h
  obtain ⟨rfl, rfl⟩ := P0_some h
  exact .cons (asInt_lw h0) (.cons (asInt_lw h1) (.cons (asInt_lw h2) (.cons (asStr_lw h3) (.cons (asRow_ok h4) (.nil)))))
theorem dec9_ok (cs : List (BV T)) (x : ref20_Scene) (h : dec9 cs = some x) : LWs (BV.avs tb cs) (eA9 x).cells := by
  obtain ⟨c0, r0, a0, rfl, h0, h⟩ := P1_some h
  obtain ⟨c1, r1, a1, rfl, h1, h⟩ := P1_some h
  obtain ⟨c2, r2, a2, rfl, h2, h⟩ := P1_some h
  obtain ⟨c3, r3, a3, rfl, h3, h⟩ := P1_some h
  obtain ⟨c4, r4, a4, rfl, h4, h⟩ := P1_some h
  obtain ⟨c5, r5, a5, rfl, h5, h⟩ := P1_some h
  obtain ⟨c6, r6, a6, rfl, h6, h⟩ := P1_some h
  obtain ⟨rfl, rfl⟩ := P0_some h
  exact .cons (asRow_ok h0) (.cons (asRow_ok h1) (.cons (asInt_lw h2) (.cons (asInt_lw h3) (.cons (asInt_lw h4) (.cons (asStr_lw h5) (.cons (asRow_ok h6) (.nil)))))))
theorem dec10_ok (cs : List (BV T)) (x : judge_side) (h : dec10 cs = some x) : LWs (BV.avs tb cs) (eA10 x).cells := by
  unfold dec10 at h
  split at h
  · obtain ⟨e, rfl⟩ := castT_some h; subst e; exact .refl _
  · cases h
theorem fd10_ok (ty : TypeId) (v : BV T) (x : judge_side) (h : fd10 ty v = some x) : ∃ y, eX10 x = .ifc ty y ∧ (v.av tb).dd = true ∧ LW (v.av tb) y := by
  unfold fd10 at h
  split at h
  · rename_i ht; obtain rfl := Nat.eq_of_beq_eq_true ht
    split at h
    rotate_left
    · cases h
    obtain ⟨c0, r0, a0, e0, h0, g0⟩ := P1_some h
    cases e0
    obtain ⟨c1, r1, a1, e1, h1, g1⟩ := P1_some g0
    cases e1
    obtain ⟨c2, r2, a2, e2, h2, g2⟩ := P1_some g1
    cases e2
    obtain ⟨c3, r3, a3, e3, h3, g3⟩ := P1_some g2
    cases e3
    obtain ⟨e, rfl⟩ := P0_some g3
    cases e
    exact ⟨_, rfl, fd_agg (dds_c (asInt_dd h0) (dds_c (asInt_dd h1) (dds_c (asInt_dd h2) (dds_c (asStr_dd h3) (rfl))))), .agg (.cons (asInt_lw h0) (.cons (asInt_lw h1) (.cons (asInt_lw h2) (.cons (asStr_lw h3) (.nil)))))⟩
  split at h
  · rename_i ht; obtain rfl := Nat.eq_of_beq_eq_true ht
    split at h
    rotate_left
    · cases h
    obtain ⟨c0, r0, a0, e0, h0, g0⟩ := P1_some h
    cases e0
    obtain ⟨c1, r1, a1, e1, h1, g1⟩ := P1_some g0
    cases e1
    obtain ⟨e, rfl⟩ := P0_some g1
    cases e
    exact ⟨_, rfl, fd_agg (dds_c (asStr_dd h0) (dds_c (asStr_dd h1) (rfl))), .agg (.cons (asStr_lw h0) (.cons (asStr_lw h1) (.nil)))⟩
  split at h
  · rename_i ht; obtain rfl := Nat.eq_of_beq_eq_true ht
    split at h
    rotate_left
    · cases h
    obtain ⟨c0, r0, a0, e0, h0, g0⟩ := P1_some h
    cases e0
    obtain ⟨e, rfl⟩ := P0_some g0
    cases e
    exact ⟨_, rfl, fd_agg (dds_c (asStr_dd h0) (rfl)), .agg (.cons (asStr_lw h0) (.nil))⟩
  split at h
  · rename_i ht; obtain rfl := Nat.eq_of_beq_eq_true ht
    split at h
    rotate_left
    · cases h
    obtain ⟨c0, r0, a0, e0, h0, g0⟩ := P1_some h
    cases e0
    obtain ⟨c1, r1, a1, e1, h1, g1⟩ := P1_some g0
    cases e1
    obtain ⟨c2, r2, a2, e2, h2, g2⟩ := P1_some g1
    cases e2
    obtain ⟨e, rfl⟩ := P0_some g2
    cases e
    exact ⟨_, rfl, fd_agg (dds_c (asBool_dd h0) (dds_c (asTr_dd h1) (dds_c (asTr_dd h2) (rfl)))), .agg (.cons (asBool_lw h0) (.cons (asTr_ok h1) (.cons (asTr_ok h2) (.nil))))⟩
  cases h
theorem dec11_ok (cs : List (BV T)) (x : judge_truth) (h : dec11 cs = some x) : LWs (BV.avs tb cs) (eA11 x).cells := by
  unfold dec11 at h
  split at h
  · obtain ⟨e, rfl⟩ := castT_some h; subst e; exact .refl _
  · cases h
theorem fd11_ok (ty : TypeId) (v : BV T) (x : judge_truth) (h : fd11 ty v = some x) : ∃ y, eX11 x = .ifc ty y ∧ (v.av tb).dd = true ∧ LW (v.av tb) y := by
  unfold fd11 at h
  split at h
  · rename_i ht; obtain rfl := Nat.eq_of_beq_eq_true ht
    split at h
    rotate_left
    · cases h
    obtain ⟨c0, r0, a0, e0, h0, g0⟩ := P1_some h
    cases e0
    obtain ⟨c1, r1, a1, e1, h1, g1⟩ := P1_some g0
    cases e1
    obtain ⟨e, rfl⟩ := P0_some g1
    cases e
    exact ⟨_, rfl, fd_agg (dds_c (asTr_dd h0) (dds_c (asTr_dd h1) (rfl))), .agg (.cons (asTr_ok h0) (.cons (asTr_ok h1) (.nil)))⟩
  split at h
  · rename_i ht; obtain rfl := Nat.eq_of_beq_eq_true ht
    split at h
    rotate_left
    · cases h
    obtain ⟨c0, r0, a0, e0, h0, g0⟩ := P1_some h
    cases e0
    obtain ⟨e, rfl⟩ := P0_some g0
    cases e
    exact ⟨_, rfl, fd_agg (dds_c (asTr_dd h0) (rfl)), .agg (.cons (asTr_ok h0) (.nil))⟩
  split at h
  · rename_i ht; obtain rfl := Nat.eq_of_beq_eq_true ht
    split at h
    rotate_left
    · cases h
    obtain ⟨c0, r0, a0, e0, h0, g0⟩ := P1_some h
    cases e0
    obtain ⟨c1, r1, a1, e1, h1, g1⟩ := P1_some g0
    cases e1
    obtain ⟨e, rfl⟩ := P0_some g1
    cases e
    exact ⟨_, rfl, fd_agg (dds_c (asTr_dd h0) (dds_c (asTr_dd h1) (rfl))), .agg (.cons (asTr_ok h0) (.cons (asTr_ok h1) (.nil)))⟩
  split at h
  · rename_i ht; obtain rfl := Nat.eq_of_beq_eq_true ht
    split at h
    rotate_left
    · cases h
    obtain ⟨c0, r0, a0, e0, h0, g0⟩ := P1_some h
    cases e0
    obtain ⟨c1, r1, a1, e1, h1, g1⟩ := P1_some g0
    cases e1
    obtain ⟨c2, r2, a2, e2, h2, g2⟩ := P1_some g1
    cases e2
    obtain ⟨e, rfl⟩ := P0_some g2
    cases e
    exact ⟨_, rfl, fd_agg (dds_c (asInt_dd h0) (dds_c (asTr_dd h1) (dds_c (asTr_dd h2) (rfl)))), .agg (.cons (asInt_lw h0) (.cons (asTr_ok h1) (.cons (asTr_ok h2) (.nil))))⟩
  cases h
theorem dec12_ok (cs : List (BV T)) (x : judge_lit) (h : dec12 cs = some x) : LWs (BV.avs tb cs) (eA12 x).cells := by
  obtain ⟨c0, r0, a0, rfl, h0, h⟩ := P1_some h
  obtain ⟨c1, r1, a1, rfl, h1, h⟩ := P1_some h
  obtain ⟨c2, r2, a2, rfl, h2, h⟩ := P1_some h
  obtain ⟨c3, r3, a3, rfl, h3, h⟩ := P1_some h
  obtain ⟨rfl, rfl⟩ := P0_some h
  exact .cons (asInt_lw h0) (.cons (asInt_lw h1) (.cons (asInt_lw h2) (.cons (asStr_lw h3) (.nil))))
theorem dec13_ok (cs : List (BV T)) (x : judge_of) (h : dec13 cs = some x) : LWs (BV.avs tb cs) (eA13 x).cells := by
  obtain ⟨c0, r0, a0, rfl, h0, h⟩ := P1_some h
  obtain ⟨c1, r1, a1, rfl, h1, h⟩ := P1_some h
  obtain ⟨rfl, rfl⟩ := P0_some h
  exact .cons (asStr_lw h0) (.cons (asStr_lw h1) (.nil))
theorem dec14_ok (cs : List (BV T)) (x : judge_own) (h : dec14 cs = some x) : LWs (BV.avs tb cs) (eA14 x).cells := by
  obtain ⟨c0, r0, a0, rfl, h0, h⟩ := P1_some h
  obtain ⟨rfl, rfl⟩ := P0_some h
  exact .cons (asStr_lw h0) (.nil)
theorem dec15_ok (cs : List (BV T)) (x : judge_sum) (h : dec15 cs = some x) : LWs (BV.avs tb cs) (eA15 x).cells := by
  obtain ⟨c0, r0, a0, rfl, h0, h⟩ := P1_some h
  obtain ⟨c1, r1, a1, rfl, h1, h⟩ := P1_some h
  obtain ⟨c2, r2, a2, rfl, h2, h⟩ := P1_some h
  obtain ⟨rfl, rfl⟩ := P0_some h
  exact .cons (asBool_lw h0) (.cons (asTr_ok h1) (.cons (asTr_ok h2) (.nil)))
theorem dec16_ok (cs : List (BV T)) (x : judge_test) (h : dec16 cs = some x) : LWs (BV.avs tb cs) (eA16 x).cells := by
  obtain ⟨c0, r0, a0, rfl, h0, h⟩ := P1_some h
  obtain ⟨c1, r1, a1, rfl, h1, h⟩ := P1_some h
  obtain ⟨c2, r2, a2, rfl, h2, h⟩ := P1_some h
  obtain ⟨rfl, rfl⟩ := P0_some h
  exact .cons (asInt_lw h0) (.cons (asTr_ok h1) (.cons (asTr_ok h2) (.nil)))
theorem dec17_ok (cs : List (BV T)) (x : judge_and) (h : dec17 cs = some x) : LWs (BV.avs tb cs) (eA17 x).cells := by
  obtain ⟨c0, r0, a0, rfl, h0, h⟩ := P1_some h
  obtain ⟨c1, r1, a1, rfl, h1, h⟩ := P1_some h
  obtain ⟨rfl, rfl⟩ := P0_some h
  exact .cons (asTr_ok h0) (.cons (asTr_ok h1) (.nil))
theorem dec18_ok (cs : List (BV T)) (x : judge_not) (h : dec18 cs = some x) : LWs (BV.avs tb cs) (eA18 x).cells := by
  obtain ⟨c0, r0, a0, rfl, h0, h⟩ := P1_some h
  obtain ⟨rfl, rfl⟩ := P0_some h
  exact .cons (asTr_ok h0) (.nil)
theorem el_ok : ∀ (i : Nat) (x : T i) (R : Type) (K : BV T → Option R) (r : R), el i x R K = some r → ∃ z, z.av tb = eX i x ∧ K z = some r
  | 0, x, R, K, r, h => by cases h
  | 1, x, R, K, r, h => by cases h
  | 2, x, R, K, r, h => by cases h
  | 3, x, R, K, r, h => by cases h
  | 4, x, R, K, r, h => by cases h
  | 5, x, R, K, r, h => by cases h
  | 6, x, R, K, r, h => by cases h
  | 7, x, R, K, r, h => by cases h
  | 8, x, R, K, r, h => by cases h
  | 9, x, R, K, r, h => by cases h
  | 10, x, R, K, r, h => by cases x <;> exact ⟨_, by kernel_rfl, h⟩
  | 11, x, R, K, r, h => by cases x <;> exact ⟨_, by kernel_rfl, h⟩
  | 12, x, R, K, r, h => by cases h
  | 13, x, R, K, r, h => by cases h
  | 14, x, R, K, r, h => by cases h
  | 15, x, R, K, r, h => by cases h
  | 16, x, R, K, r, h => by cases h
  | 17, x, R, K, r, h => by cases h
  | 18, x, R, K, r, h => by cases h
  | n + 19, x, R, K, r, h => by cases h
theorem fd_ok : ∀ (i : Nat) (ty : TypeId) (v : BV T) (x : T i), fd i ty v = some x → ∃ y, eX i x = .ifc ty y ∧ (v.av tb).dd = true ∧ LW (v.av tb) y
  | 0, ty, v, x, h => by cases h
  | 1, ty, v, x, h => by cases h
  | 2, ty, v, x, h => by cases h
  | 3, ty, v, x, h => by cases h
  | 4, ty, v, x, h => by cases h
  | 5, ty, v, x, h => by cases h
  | 6, ty, v, x, h => by cases h
  | 7, ty, v, x, h => by cases h
  | 8, ty, v, x, h => by cases h
  | 9, ty, v, x, h => by cases h
  | 10, ty, v, x, h => fd10_ok ty v x h
  | 11, ty, v, x, h => fd11_ok ty v x h
  | 12, ty, v, x, h => by cases h
  | 13, ty, v, x, h => by cases h
  | 14, ty, v, x, h => by cases h
  | 15, ty, v, x, h => by cases h
  | 16, ty, v, x, h => by cases h
  | 17, ty, v, x, h => by cases h
  | 18, ty, v, x, h => by cases h
  | n + 19, ty, v, x, h => by cases h
theorem tb_ok : tb.Ok where
  enc := fun i x => match i with | 0 => (by kernel_rfl) | 1 => (by kernel_rfl) | 2 => (by kernel_rfl) | 3 => (by kernel_rfl) | 4 => (by kernel_rfl) | 5 => (by kernel_rfl) | 6 => (by kernel_rfl) | 7 => (by kernel_rfl) | 8 => (by kernel_rfl) | 9 => (by kernel_rfl) | 10 => (by kernel_rfl) | 11 => (by kernel_rfl) | 12 => (by kernel_rfl) | 13 => (by kernel_rfl) | 14 => (by kernel_rfl) | 15 => (by kernel_rfl) | 16 => (by kernel_rfl) | 17 => (by kernel_rfl) | 18 => (by kernel_rfl) | n + 19 => (by kernel_rfl)
  len := fun i x => match i with | 0 => (by kernel_rfl) | 1 => (by kernel_rfl) | 2 => (by kernel_rfl) | 3 => (by kernel_rfl) | 4 => (by kernel_rfl) | 5 => (by kernel_rfl) | 6 => (by kernel_rfl) | 7 => (by kernel_rfl) | 8 => (by kernel_rfl) | 9 => (by kernel_rfl) | 10 => (by kernel_rfl) | 11 => (by kernel_rfl) | 12 => (by kernel_rfl) | 13 => (by kernel_rfl) | 14 => (by kernel_rfl) | 15 => (by kernel_rfl) | 16 => (by kernel_rfl) | 17 => (by kernel_rfl) | 18 => (by kernel_rfl) | n + 19 => (by kernel_rfl)
  one := fun i x => match i with | 0 => (by kernel_rfl) | 1 => (by kernel_rfl) | 2 => (by kernel_rfl) | 3 => (by kernel_rfl) | 4 => (by kernel_rfl) | 5 => (by kernel_rfl) | 6 => (by kernel_rfl) | 7 => (by kernel_rfl) | 8 => (by kernel_rfl) | 9 => (by kernel_rfl) | 10 => (by kernel_rfl) | 11 => (by kernel_rfl) | 12 => (by kernel_rfl) | 13 => (by kernel_rfl) | 14 => (by kernel_rfl) | 15 => (by kernel_rfl) | 16 => (by kernel_rfl) | 17 => (by kernel_rfl) | 18 => (by kernel_rfl) | n + 19 => (by kernel_rfl)
  dat := fun i x => match i with | 0 => (by kernel_rfl) | 1 => (by kernel_rfl) | 2 => (by kernel_rfl) | 3 => (by kernel_rfl) | 4 => (by kernel_rfl) | 5 => (by kernel_rfl) | 6 => (by kernel_rfl) | 7 => (by kernel_rfl) | 8 => (by kernel_rfl) | 9 => (by kernel_rfl) | 10 => (by kernel_rfl) | 11 => (by kernel_rfl) | 12 => (by kernel_rfl) | 13 => (by kernel_rfl) | 14 => (by kernel_rfl) | 15 => (by kernel_rfl) | 16 => (by kernel_rfl) | 17 => (by kernel_rfl) | 18 => (by kernel_rfl) | n + 19 => (by kernel_rfl)
  sg := fun i x h => match i with | 0 => (by cases h) | 1 => (by cases h) | 2 => (by cases h) | 3 => (by cases h) | 4 => (by cases h) | 5 => (by kernel_rfl) | 6 => (by kernel_rfl) | 7 => (by cases h) | 8 => (by cases h) | 9 => (by cases h) | 10 => (by kernel_rfl) | 11 => (by kernel_rfl) | 12 => (by cases h) | 13 => (by cases h) | 14 => (by cases h) | 15 => (by cases h) | 16 => (by cases h) | 17 => (by cases h) | 18 => (by cases h) | n + 19 => (by cases h)
  ag := fun i x h => match i with | 0 => (by kernel_rfl) | 1 => (by kernel_rfl) | 2 => (by kernel_rfl) | 3 => (by kernel_rfl) | 4 => (by kernel_rfl) | 5 => (by cases h) | 6 => (by cases h) | 7 => (by kernel_rfl) | 8 => (by kernel_rfl) | 9 => (by kernel_rfl) | 10 => (by cases h) | 11 => (by cases h) | 12 => (by kernel_rfl) | 13 => (by kernel_rfl) | 14 => (by kernel_rfl) | 15 => (by kernel_rfl) | 16 => (by kernel_rfl) | 17 => (by kernel_rfl) | 18 => (by kernel_rfl) | n + 19 => (by kernel_rfl)
  dec := fun i => match i with | 0 => dec0_ok | 1 => dec1_ok | 2 => dec2_ok | 3 => dec3_ok | 4 => dec4_ok | 5 => dec5_ok | 6 => dec6_ok | 7 => dec7_ok | 8 => dec8_ok | 9 => dec9_ok | 10 => dec10_ok | 11 => dec11_ok | 12 => dec12_ok | 13 => dec13_ok | 14 => dec14_ok | 15 => dec15_ok | 16 => dec16_ok | 17 => dec17_ok | 18 => dec18_ok | n + 19 => fun cs x h => (by cases h)
  el := el_ok
  fd := fd_ok
def C_law04_Small : Con tb := .s 21 [true] (.c (.el tb_ok 0) .n) (fun N a => s_law04_Small N a.1) (R := Int) (.p (.i .i64)) (fun _ => ⟨rfl, (by kernel_rfl)⟩)
def C_law11_Over : Con tb := .s 6 [true] (.c (.r 4) .n) (fun N a => s_law11_Over N a.1) (R := Int) (.p (.i .i64)) (fun _ => ⟨rfl, (by kernel_rfl)⟩)
def q_law11_Over_0 : LQ tb (((List pred_Node)) × (Int)) := (LQ.m [] [0, 3] (.c 0 (.r 4) (.c 3 (.i .i64) .n)) .n .n).re (fun a => (a.1.1, a.1.2.1)) (fun x => ((x.1, x.2, ()), (), ())) (fun _ => rfl)
def f_law11_Over_0 (N : Nat) (c : (List pred_Node)) (next : Int → Option Int) (v : Int) : Option Int := s_law11_Over_1 N c (fun u0 => next u0) v
abbrev r_law11_Over_0 (N : Nat) : ((List pred_Node)) × (Int) → Option Int := fun a => loopV (f_law11_Over_0 N a.1) N a.2
def C_predtext_parser_next_v424 : Con tb := .m 156 [false] (.c (.ptr 0 0) .n) (.c (.c (.r 7) (.c (.i .i64) (.c (.i .i64) .n))) .n) .n (fun N a => s_predtext_parser_next_v424 N a.2.1.1.1 a.2.1.1.2.1 a.2.1.1.2.2.1) (R := lex_Token × List lex_Token × Int × Int) (.m (R := lex_Token × List lex_Token × Int × Int) (.el tb_ok 7) (.c (.c (.r 7) (.c (.i .i64) (.c (.i .i64) .n))) .n) .n (fun z => (z.1, z.2.1.1.1, z.2.1.1.2.1, z.2.1.1.2.2.1)) (fun r => (r.1, ((r.2.1, r.2.2.1, r.2.2.2, ()), ()), ())) (fun _ => rfl))
def C_predtext_parser_place_v424 : Con tb := .m 89 [false] (.c (.ptr 0 0) .n) (.c (.c (.r 7) (.c (.i .i64) (.c (.i .i64) .n))) .n) .n (fun N a => s_predtext_parser_place_v424 N a.2.1.1.1 a.2.1.1.2.1 a.2.1.1.2.2.1) (R := Int × List lex_Token × Int × Int) (.m (R := Int × List lex_Token × Int × Int) (.i .i64) (.c (.c (.r 7) (.c (.i .i64) (.c (.i .i64) .n))) .n) .n (fun z => (z.1, z.2.1.1.1, z.2.1.1.2.1, z.2.1.1.2.2.1)) (fun r => (r.1, ((r.2.1, r.2.2.1, r.2.2.2, ()), ()), ())) (fun _ => rfl))
def C_predtext_parser_fail_v927 : Con tb := .m 167 [false, true] (.c (.ptr 0 0) (.c (.i .i64) .n)) (.c (.c (.r 7) (.c (.i .i64) (.c (.i .i64) .n))) .n) .n (fun N a => s_predtext_parser_fail_v927 N a.1.2.1 a.2.1.1.1 a.2.1.1.2.1 a.2.1.1.2.2.1) (R := Int × Int × List lex_Token × Int × Int) (.m (R := Int × Int × List lex_Token × Int × Int) (.ifc 16777417 (.ag (.c (.i .i64) (.c (.i .i64) .n)))) (.c (.c (.r 7) (.c (.i .i64) (.c (.i .i64) .n))) .n) .n (fun z => (z.1.1, z.1.2.1, z.2.1.1.1, z.2.1.1.2.1, z.2.1.1.2.2.1)) (fun r => ((r.1, r.2.1, ()), ((r.2.2.1, r.2.2.2.1, r.2.2.2.2, ()), ()), ())) (fun _ => rfl))
def C_predtext_parser_deeper_v927 : Con tb := .m 166 [false, true] (.c (.ptr 0 0) (.c (.i .i64) .n)) (.c (.c (.r 7) (.c (.i .i64) (.c (.i .i64) .n))) .n) .n (fun N a => s_predtext_parser_deeper_v927 N a.1.2.1 a.2.1.1.1 a.2.1.1.2.1 a.2.1.1.2.2.1) (R := (Int × Int × List lex_Token × Int × Int) ⊕ (List lex_Token × Int × Int)) (.or (.m (R := Int × Int × List lex_Token × Int × Int) (.ifc 16777417 (.ag (.c (.i .i64) (.c (.i .i64) .n)))) (.c (.c (.r 7) (.c (.i .i64) (.c (.i .i64) .n))) .n) .n (fun z => (z.1.1, z.1.2.1, z.2.1.1.1, z.2.1.1.2.1, z.2.1.1.2.2.1)) (fun r => ((r.1, r.2.1, ()), ((r.2.2.1, r.2.2.2.1, r.2.2.2.2, ()), ()), ())) (fun _ => rfl)) (.m (R := List lex_Token × Int × Int) (.tu .n) (.c (.c (.r 7) (.c (.i .i64) (.c (.i .i64) .n))) .n) .n (fun z => (z.2.1.1.1, z.2.1.1.2.1, z.2.1.1.2.2.1)) (fun r => ((), ((r.1, r.2.1, r.2.2, ()), ()), ())) (fun _ => rfl)))
def C_predtext_parser_eat_v368 : Con tb := .m 131 [false, true, true] (.c (.ptr 0 0) (.c (.i .u8) (.c .s .n))) (.c (.c (.r 7) (.c (.i .i64) (.c (.i .i64) .n))) .n) .n (fun N a => s_predtext_parser_eat_v368 N a.1.2.1 a.1.2.2.1 a.2.1.1.1 a.2.1.1.2.1 a.2.1.1.2.2.1) (R := Bool × List lex_Token × Int × Int) (.m (R := Bool × List lex_Token × Int × Int) .b (.c (.c (.r 7) (.c (.i .i64) (.c (.i .i64) .n))) .n) .n (fun z => (z.1, z.2.1.1.1, z.2.1.1.2.1, z.2.1.1.2.2.1)) (fun r => (r.1, ((r.2.1, r.2.2.1, r.2.2.2, ()), ()), ())) (fun _ => rfl))
def C_slices_Grow_pred_Node_own : Con tb := .m 171 [false, true] (.c .e (.c (.i .i64) .n)) .n .n (fun N a => s_slices_Grow_pred_Node_own N a.1.2.1) (R := List pred_Node) (.m (R := List pred_Node) (.own 0) .n (.l 4 .n) (fun z => z.2.2.1) (fun r => ((), (), r, ())) (fun _ => rfl))
def C_slices_Concat_pred_Node : Con tb := .p 157 [true] (.c (.r 5) .n) (fun N a => s_slices_Concat_pred_Node N a.1) (R := (List UInt8) ⊕ (List pred_Node)) (.or (.p (.ifc 16777225 .s)) (.p (.r 4))) (fun r => by rcases r with _ | _ <;> exact rfl)
def q_slices_Concat_pred_Node_0 : LQ tb (((List (List pred_Node)) × (List (List pred_Node)) × Int) × (Int × Int)) := (LQ.m [] [0, 3, 9, 10, 11] (.c 0 (.r 5) (.c 3 (.i .i64) (.c 9 (.r 5) (.c 10 (.i .i64) (.c 11 (.i .i64) .n))))) .n .n).re (fun a => ((a.1.1, a.1.2.2.1, a.1.2.2.2.1), (a.1.2.1, a.1.2.2.2.2.1))) (fun x => ((x.1.1, x.2.1, x.1.2.1, x.1.2.2, x.2.2, ()), (), ())) (fun _ => rfl)
def q_slices_Concat_pred_Node_2 : LQ tb (((List (List pred_Node)) × Int) × (Int × (List pred_Node))) := (LQ.m [] [6, 25, 26, 27] (.c 6 (.own 0) (.c 25 (.r 5) (.c 26 (.i .i64) (.c 27 (.i .i64) .n)))) .n (.l 4 .n)).re (fun a => ((a.1.2.1, a.1.2.2.1), (a.1.2.2.2.1, a.2.2.1))) (fun x => (((), x.1.1, x.1.2, x.2.1, ()), (), x.2.2, ())) (fun _ => rfl)
def f_slices_Concat_pred_Node_2 (N : Nat) (c : (List (List pred_Node)) × Int) (next : (Int × (List pred_Node)) → Option ((List UInt8) ⊕ (List pred_Node))) (v : Int × (List pred_Node)) : Option ((List UInt8) ⊕ (List pred_Node)) := s_slices_Concat_pred_Node_2 N c.1 c.2 (fun u0 u1 => next (u0, u1)) v.1 v.2
abbrev r_slices_Concat_pred_Node_2 (N : Nat) : ((List (List pred_Node)) × Int) × (Int × (List pred_Node)) → Option ((List UInt8) ⊕ (List pred_Node)) := fun a => loopV (f_slices_Concat_pred_Node_2 N a.1) N a.2
def f_slices_Concat_pred_Node_0 (N : Nat) (c : (List (List pred_Node)) × (List (List pred_Node)) × Int) (next : (Int × Int) → Option ((List UInt8) ⊕ (List pred_Node))) (v : Int × Int) : Option ((List UInt8) ⊕ (List pred_Node)) := s_slices_Concat_pred_Node_1 N c.1 c.2.1 c.2.2 (fun u0 u1 => next (u0, u1)) v.1 v.2
abbrev r_slices_Concat_pred_Node_0 (N : Nat) : ((List (List pred_Node)) × (List (List pred_Node)) × Int) × (Int × Int) → Option ((List UInt8) ⊕ (List pred_Node)) := fun a => loopV (f_slices_Concat_pred_Node_0 N a.1) N a.2
def C_predtext_above : Con tb := .p 132 [true, true] (.c (.el tb_ok 4) (.c (.r 5) .n)) (fun N a => s_predtext_above N a.1 a.2.1) (R := List pred_Node) (.p (.r 4)) (fun _ => rfl)
def C_predtext_parser_take_v128 : Con tb := .m 170 [false, true] (.c (.ptr 0 0) (.c (.i .u8) .n)) (.c (.c (.r 7) (.c (.i .i64) (.c (.i .i64) .n))) .n) .n (fun N a => s_predtext_parser_take_v128 N a.1.2.1 a.2.1.1.1 a.2.1.1.2.1 a.2.1.1.2.2.1) (R := (Int × Int × List lex_Token × Int × Int) ⊕ (lex_Token × List lex_Token × Int × Int)) (.or (.m (R := Int × Int × List lex_Token × Int × Int) (.ifc 16777417 (.ag (.c (.i .i64) (.c (.i .i64) .n)))) (.c (.c (.r 7) (.c (.i .i64) (.c (.i .i64) .n))) .n) .n (fun z => (z.1.1, z.1.2.1, z.2.1.1.1, z.2.1.1.2.1, z.2.1.1.2.2.1)) (fun r => ((r.1, r.2.1, ()), ((r.2.2.1, r.2.2.2.1, r.2.2.2.2, ()), ()), ())) (fun _ => rfl)) (.m (R := lex_Token × List lex_Token × Int × Int) (.el tb_ok 7) (.c (.c (.r 7) (.c (.i .i64) (.c (.i .i64) .n))) .n) .n (fun z => (z.1, z.2.1.1.1, z.2.1.1.2.1, z.2.1.1.2.2.1)) (fun r => (r.1, ((r.2.1, r.2.2.1, r.2.2.2, ()), ()), ())) (fun _ => rfl)))
def C_predtext_parser_unit_v424 : Con tb := .m 174 [false] (.c (.ptr 0 0) .n) (.c (.c (.r 7) (.c (.i .i64) (.c (.i .i64) .n))) .n) .n (fun N a => s_predtext_parser_unit_v424 N a.2.1.1.1 a.2.1.1.2.1 a.2.1.1.2.2.1) (R := (Int × Int × List lex_Token × Int × Int) ⊕ (List pred_Node × List lex_Token × Int × Int)) (.or (.m (R := Int × Int × List lex_Token × Int × Int) (.ifc 16777417 (.ag (.c (.i .i64) (.c (.i .i64) .n)))) (.c (.c (.r 7) (.c (.i .i64) (.c (.i .i64) .n))) .n) .n (fun z => (z.1.1, z.1.2.1, z.2.1.1.1, z.2.1.1.2.1, z.2.1.1.2.2.1)) (fun r => ((r.1, r.2.1, ()), ((r.2.2.1, r.2.2.2.1, r.2.2.2.2, ()), ()), ())) (fun _ => rfl)) (.m (R := List pred_Node × List lex_Token × Int × Int) (.r 4) (.c (.c (.r 7) (.c (.i .i64) (.c (.i .i64) .n))) .n) .n (fun z => (z.1, z.2.1.1.1, z.2.1.1.2.1, z.2.1.1.2.2.1)) (fun r => (r.1, ((r.2.1, r.2.2.1, r.2.2.2, ()), ()), ())) (fun _ => rfl)))
def C_predtext_parser_sum_v424 : Con tb := .m 168 [false] (.c (.ptr 0 0) .n) (.c (.c (.r 7) (.c (.i .i64) (.c (.i .i64) .n))) .n) .n (fun N a => s_predtext_parser_sum_v424 N a.2.1.1.1 a.2.1.1.2.1 a.2.1.1.2.2.1) (R := (Int × Int × List lex_Token × Int × Int) ⊕ (List pred_Node × List lex_Token × Int × Int)) (.or (.m (R := Int × Int × List lex_Token × Int × Int) (.ifc 16777417 (.ag (.c (.i .i64) (.c (.i .i64) .n)))) (.c (.c (.r 7) (.c (.i .i64) (.c (.i .i64) .n))) .n) .n (fun z => (z.1.1, z.1.2.1, z.2.1.1.1, z.2.1.1.2.1, z.2.1.1.2.2.1)) (fun r => ((r.1, r.2.1, ()), ((r.2.2.1, r.2.2.2.1, r.2.2.2.2, ()), ()), ())) (fun _ => rfl)) (.m (R := List pred_Node × List lex_Token × Int × Int) (.r 4) (.c (.c (.r 7) (.c (.i .i64) (.c (.i .i64) .n))) .n) .n (fun z => (z.1, z.2.1.1.1, z.2.1.1.2.1, z.2.1.1.2.2.1)) (fun r => (r.1, ((r.2.1, r.2.2.1, r.2.2.2, ()), ()), ())) (fun _ => rfl)))
def q_predtext_parser_sum_v424_0 : LQ tb ((Unit) × ((List pred_Node) × (List lex_Token) × Int × Int)) := (LQ.m [] [0, 3] (.c 0 (.ptr 0 0) (.c 3 (.r 4) .n)) (.c (.c (.r 7) (.c (.i .i64) (.c (.i .i64) .n))) .n) .n).re (fun a => ((), (a.1.2.1, a.2.1.1.1, a.2.1.1.2.1, a.2.1.1.2.2.1))) (fun x => (((), x.2.1, ()), ((x.2.2.1, x.2.2.2.1, x.2.2.2.2, ()), ()), ())) (fun _ => rfl)
def f_predtext_parser_sum_v424_0 (N : Nat) (c : Unit) (next : ((List pred_Node) × (List lex_Token) × Int × Int) → Option ((Int × Int × List lex_Token × Int × Int) ⊕ (List pred_Node × List lex_Token × Int × Int))) (v : (List pred_Node) × (List lex_Token) × Int × Int) : Option ((Int × Int × List lex_Token × Int × Int) ⊕ (List pred_Node × List lex_Token × Int × Int)) := s_predtext_parser_sum_v424_1 N (fun u0 u1 u2 u3 => next (u0, u1, u2, u3)) v.1 v.2.1 v.2.2.1 v.2.2.2
abbrev r_predtext_parser_sum_v424_0 (N : Nat) : (Unit) × ((List pred_Node) × (List lex_Token) × Int × Int) → Option ((Int × Int × List lex_Token × Int × Int) ⊕ (List pred_Node × List lex_Token × Int × Int)) := fun a => loopV (f_predtext_parser_sum_v424_0 N a.1) N a.2
def C_compare_Sign : Con tb := .s 60 [true] (.c (.i .u8) .n) (fun N a => s_compare_Sign N a.1) (R := List UInt8) (.p .s) (fun _ => ⟨rfl, (by kernel_rfl)⟩)
def C_compare_Op : Con tb := .s 169 [true] (.c .s .n) (fun N a => s_compare_Op N a.1) (R := Int) (.p (.i .u8)) (fun _ => ⟨rfl, (by kernel_rfl)⟩)
def q_compare_Op_0 : LQ tb (((List UInt8)) × (Int)) := (LQ.m [] [0, 3] (.c 0 .s (.c 3 (.i .u8) .n)) .n .n).re (fun a => (a.1.1, a.1.2.1)) (fun x => ((x.1, x.2, ()), (), ())) (fun _ => rfl)
def f_compare_Op_0 (N : Nat) (c : (List UInt8)) (next : Int → Option Int) (v : Int) : Option Int := s_compare_Op_1 N c (fun u0 => next u0) v
abbrev r_compare_Op_0 (N : Nat) : ((List UInt8)) × (Int) → Option Int := fun a => loopV (f_compare_Op_0 N a.1) N a.2
def C_predtext_parser_or_v927 : Con tb := .m 91 [false, true] (.c (.ptr 0 0) (.c (.i .i64) .n)) (.c (.c (.r 7) (.c (.i .i64) (.c (.i .i64) .n))) .n) .n (fun N a => s_predtext_parser_or_v927 N a.1.2.1 a.2.1.1.1 a.2.1.1.2.1 a.2.1.1.2.2.1) (R := (Int × Int × List lex_Token × Int × Int) ⊕ (List pred_Node × List lex_Token × Int × Int)) (.or (.m (R := Int × Int × List lex_Token × Int × Int) (.ifc 16777417 (.ag (.c (.i .i64) (.c (.i .i64) .n)))) (.c (.c (.r 7) (.c (.i .i64) (.c (.i .i64) .n))) .n) .n (fun z => (z.1.1, z.1.2.1, z.2.1.1.1, z.2.1.1.2.1, z.2.1.1.2.2.1)) (fun r => ((r.1, r.2.1, ()), ((r.2.2.1, r.2.2.2.1, r.2.2.2.2, ()), ()), ())) (fun _ => rfl)) (.m (R := List pred_Node × List lex_Token × Int × Int) (.r 4) (.c (.c (.r 7) (.c (.i .i64) (.c (.i .i64) .n))) .n) .n (fun z => (z.1, z.2.1.1.1, z.2.1.1.2.1, z.2.1.1.2.2.1)) (fun r => (r.1, ((r.2.1, r.2.2.1, r.2.2.2, ()), ()), ())) (fun _ => rfl)))
def q_predtext_parser_or_v927_0 : LQ tb ((Int) × ((List pred_Node) × (List lex_Token) × Int × Int)) := (LQ.m [] [0, 1, 5] (.c 0 (.ptr 0 0) (.c 1 (.i .i64) (.c 5 (.r 4) .n))) (.c (.c (.r 7) (.c (.i .i64) (.c (.i .i64) .n))) .n) .n).re (fun a => (a.1.2.1, (a.1.2.2.1, a.2.1.1.1, a.2.1.1.2.1, a.2.1.1.2.2.1))) (fun x => (((), x.1, x.2.1, ()), ((x.2.2.1, x.2.2.2.1, x.2.2.2.2, ()), ()), ())) (fun _ => rfl)
def f_predtext_parser_or_v927_0 (N : Nat) (c : Int) (next : ((List pred_Node) × (List lex_Token) × Int × Int) → Option ((Int × Int × List lex_Token × Int × Int) ⊕ (List pred_Node × List lex_Token × Int × Int))) (v : (List pred_Node) × (List lex_Token) × Int × Int) : Option ((Int × Int × List lex_Token × Int × Int) ⊕ (List pred_Node × List lex_Token × Int × Int)) := s_predtext_parser_or_v927_1 N (SS_predtext_parser_or_v927 N) c (fun u0 u1 u2 u3 => next (u0, u1, u2, u3)) v.1 v.2.1 v.2.2.1 v.2.2.2
abbrev r_predtext_parser_or_v927_0 (N : Nat) : (Int) × ((List pred_Node) × (List lex_Token) × Int × Int) → Option ((Int × Int × List lex_Token × Int × Int) ⊕ (List pred_Node × List lex_Token × Int × Int)) := fun a => loopV (f_predtext_parser_or_v927_0 N a.1) N a.2
def C_predtext_parser_and_v927 : Con tb := .m 130 [false, true] (.c (.ptr 0 0) (.c (.i .i64) .n)) (.c (.c (.r 7) (.c (.i .i64) (.c (.i .i64) .n))) .n) .n (fun N a => s_predtext_parser_and_v927 N a.1.2.1 a.2.1.1.1 a.2.1.1.2.1 a.2.1.1.2.2.1) (R := (Int × Int × List lex_Token × Int × Int) ⊕ (List pred_Node × List lex_Token × Int × Int)) (.or (.m (R := Int × Int × List lex_Token × Int × Int) (.ifc 16777417 (.ag (.c (.i .i64) (.c (.i .i64) .n)))) (.c (.c (.r 7) (.c (.i .i64) (.c (.i .i64) .n))) .n) .n (fun z => (z.1.1, z.1.2.1, z.2.1.1.1, z.2.1.1.2.1, z.2.1.1.2.2.1)) (fun r => ((r.1, r.2.1, ()), ((r.2.2.1, r.2.2.2.1, r.2.2.2.2, ()), ()), ())) (fun _ => rfl)) (.m (R := List pred_Node × List lex_Token × Int × Int) (.r 4) (.c (.c (.r 7) (.c (.i .i64) (.c (.i .i64) .n))) .n) .n (fun z => (z.1, z.2.1.1.1, z.2.1.1.2.1, z.2.1.1.2.2.1)) (fun r => (r.1, ((r.2.1, r.2.2.1, r.2.2.2, ()), ()), ())) (fun _ => rfl)))
def q_predtext_parser_and_v927_0 : LQ tb ((Int) × ((List pred_Node) × (List lex_Token) × Int × Int)) := (LQ.m [] [0, 1, 5] (.c 0 (.ptr 0 0) (.c 1 (.i .i64) (.c 5 (.r 4) .n))) (.c (.c (.r 7) (.c (.i .i64) (.c (.i .i64) .n))) .n) .n).re (fun a => (a.1.2.1, (a.1.2.2.1, a.2.1.1.1, a.2.1.1.2.1, a.2.1.1.2.2.1))) (fun x => (((), x.1, x.2.1, ()), ((x.2.2.1, x.2.2.2.1, x.2.2.2.2, ()), ()), ())) (fun _ => rfl)
def f_predtext_parser_and_v927_0 (N : Nat) (c : Int) (next : ((List pred_Node) × (List lex_Token) × Int × Int) → Option ((Int × Int × List lex_Token × Int × Int) ⊕ (List pred_Node × List lex_Token × Int × Int))) (v : (List pred_Node) × (List lex_Token) × Int × Int) : Option ((Int × Int × List lex_Token × Int × Int) ⊕ (List pred_Node × List lex_Token × Int × Int)) := s_predtext_parser_and_v927_1 N (SS_predtext_parser_or_v927 N) c (fun u0 u1 u2 u3 => next (u0, u1, u2, u3)) v.1 v.2.1 v.2.2.1 v.2.2.2
abbrev r_predtext_parser_and_v927_0 (N : Nat) : (Int) × ((List pred_Node) × (List lex_Token) × Int × Int) → Option ((Int × Int × List lex_Token × Int × Int) ⊕ (List pred_Node × List lex_Token × Int × Int)) := fun a => loopV (f_predtext_parser_and_v927_0 N a.1) N a.2
def C_predtext_parser_part_v927 : Con tb := .m 155 [false, true] (.c (.ptr 0 0) (.c (.i .i64) .n)) (.c (.c (.r 7) (.c (.i .i64) (.c (.i .i64) .n))) .n) .n (fun N a => s_predtext_parser_part_v927 N a.1.2.1 a.2.1.1.1 a.2.1.1.2.1 a.2.1.1.2.2.1) (R := (Int × Int × List lex_Token × Int × Int) ⊕ (List pred_Node × List lex_Token × Int × Int)) (.or (.m (R := Int × Int × List lex_Token × Int × Int) (.ifc 16777417 (.ag (.c (.i .i64) (.c (.i .i64) .n)))) (.c (.c (.r 7) (.c (.i .i64) (.c (.i .i64) .n))) .n) .n (fun z => (z.1.1, z.1.2.1, z.2.1.1.1, z.2.1.1.2.1, z.2.1.1.2.2.1)) (fun r => ((r.1, r.2.1, ()), ((r.2.2.1, r.2.2.2.1, r.2.2.2.2, ()), ()), ())) (fun _ => rfl)) (.m (R := List pred_Node × List lex_Token × Int × Int) (.r 4) (.c (.c (.r 7) (.c (.i .i64) (.c (.i .i64) .n))) .n) .n (fun z => (z.1, z.2.1.1.1, z.2.1.1.2.1, z.2.1.1.2.2.1)) (fun r => (r.1, ((r.2.1, r.2.2.1, r.2.2.2, ()), ()), ())) (fun _ => rfl)))
def C_pred_Node_stands : Con tb := .s 38 [true, true] (.c (.el tb_ok 4) (.c (.i .i64) .n)) (fun N a => s_pred_Node_stands N a.1 a.2.1) (R := Bool) (.p .b) (fun _ => ⟨rfl, (by kernel_rfl)⟩)
def C_schema_letter : Con tb := .s 97 [true] (.c (.i .u8) .n) (fun N a => s_schema_letter N a.1) (R := Bool) (.p .b) (fun _ => ⟨rfl, (by kernel_rfl)⟩)
def C_schema_Reserved : Con tb := .s 98 [true] (.c .s .n) (fun N a => s_schema_Reserved N a.1) (R := Bool) (.p .b) (fun _ => ⟨rfl, (by kernel_rfl)⟩)
def C_schema_tail : Con tb := .s 99 [true] (.c (.i .u8) .n) (fun N a => s_schema_tail N a.1) (R := Bool) (.p .b) (fun _ => ⟨rfl, (by kernel_rfl)⟩)
def C_schema_Name : Con tb := .s 61 [true] (.c .s .n) (fun N a => s_schema_Name N a.1) (R := Bool) (.p .b) (fun _ => ⟨rfl, (by kernel_rfl)⟩)
def q_schema_Name_0 : LQ tb (((List UInt8)) × (Int)) := (LQ.m [] [0, 3] (.c 0 .s (.c 3 (.i .i64) .n)) .n .n).re (fun a => (a.1.1, a.1.2.1)) (fun x => ((x.1, x.2, ()), (), ())) (fun _ => rfl)
def f_schema_Name_0 (N : Nat) (c : (List UInt8)) (next : Int → Option Bool) (v : Int) : Option Bool := s_schema_Name_1 N c (fun u0 => next u0) v
abbrev r_schema_Name_0 (N : Nat) : ((List UInt8)) × (Int) → Option Bool := fun a => loopV (f_schema_Name_0 N a.1) N a.2
def C_value_core : Con tb := .p 100 [true] (.c (.el tb_ok 0) .n) (fun N a => s_value_core N a.1) (R := Int ⊕ Int ⊕ Int ⊕ (List UInt8) ⊕ Unit) (.or (.p (.ifc 214 (.i .i64))) (.or (.p (.ifc 215 (.i .i64))) (.or (.p (.ifc 216 (.i .u64))) (.or (.p (.ifc 217 .s)) (.p .ni))))) (fun r => by rcases r with _ | _ | _ | _ | _ <;> exact rfl)
def C_value_number_whole : Con tb := .s 244 [true] (.c (.i .i64) .n) (fun N a => s_value_number_whole N a.1) (R := value_Value) (.p (.el tb_ok 0)) (fun _ => ⟨rfl, (by kernel_rfl)⟩)
def C_value_flag_whole : Con tb := .s 245 [true] (.c (.i .i64) .n) (fun N a => s_value_flag_whole N a.1) (R := value_Value) (.p (.el tb_ok 0)) (fun _ => ⟨rfl, (by kernel_rfl)⟩)
def C_real_of : Con tb := .s 139 [true] (.c (.i .u64) .n) (fun N a => s_real_of N a.1) (R := Nat) (.p (.f .f64)) (fun _ => ⟨rfl, (by kernel_rfl)⟩)
def C_real_Clean : Con tb := .s 101 [true] (.c (.i .u64) .n) (fun N a => s_real_Clean N a.1) (R := Int) (.p (.i .u64)) (fun _ => ⟨rfl, (by kernel_rfl)⟩)
def C_value_double_whole : Con tb := .s 246 [true] (.c (.i .u64) .n) (fun N a => s_value_double_whole N a.1) (R := value_Value) (.p (.el tb_ok 0)) (fun _ => ⟨rfl, (by kernel_rfl)⟩)
def C_value_words_whole : Con tb := .s 247 [true] (.c .s .n) (fun N a => s_value_words_whole N a.1) (R := value_Value) (.p (.el tb_ok 0)) (fun _ => ⟨rfl, (by kernel_rfl)⟩)
def C_value_Check : Con tb := .s 62 [true] (.c (.el tb_ok 0) .n) (fun N a => s_value_Check N a.1) (R := Int) (.p (.i .i64)) (fun _ => ⟨rfl, (by kernel_rfl)⟩)
def C_pred_Node_lacks : Con tb := .s 40 [true] (.c (.el tb_ok 4) .n) (fun N a => s_pred_Node_lacks N a.1) (R := Bool) (.p .b) (fun _ => ⟨rfl, (by kernel_rfl)⟩)
def C_pred_is_v782 : Con tb := .s 39 [true, false, true] (.c (.el tb_ok 4) (.c (.fn 40 .n .n) (.c (.i .i64) .n))) (fun N a => s_pred_is_v782 N a.1 a.2.2.1) (R := Int) (.p (.i .i64)) (fun _ => ⟨rfl, (by kernel_rfl)⟩)
def C_pred_Node_more : Con tb := .s 41 [true] (.c (.el tb_ok 4) .n) (fun N a => s_pred_Node_more N a.1) (R := Bool) (.p .b) (fun _ => ⟨rfl, (by kernel_rfl)⟩)
def C_pred_is_v272 : Con tb := .s 39 [true, false, true] (.c (.el tb_ok 4) (.c (.fn 41 .n .n) (.c (.i .i64) .n))) (fun N a => s_pred_is_v272 N a.1 a.2.2.1) (R := Int) (.p (.i .i64)) (fun _ => ⟨rfl, (by kernel_rfl)⟩)
def C_pred_Kids : Con tb := .s 42 [true] (.c (.i .u8) .n) (fun N a => s_pred_Kids N a.1) (R := Int) (.p (.i .i64)) (fun _ => ⟨rfl, (by kernel_rfl)⟩)
def C_pred_Node_kid : Con tb := .s 43 [true, true] (.c (.el tb_ok 4) (.c (.i .i64) .n)) (fun N a => s_pred_Node_kid N a.1 a.2.1) (R := Int) (.p (.i .i64)) (fun _ => ⟨rfl, (by kernel_rfl)⟩)
def C_pred_checker_tree_v739 : Con tb := .m 27 [false, true, true] (.c (.ptr 0 0) (.c (.i .i64) (.c (.i .i64) .n))) (.c (.c (.r 4) (.c (.i .i64) .n)) .n) .n (fun N a => s_pred_checker_tree_v739 N a.1.2.1 a.1.2.2.1 a.2.1.1.1 a.2.1.1.2.1) (R := Int × List pred_Node × Int) (.m (R := Int × List pred_Node × Int) (.i .i64) (.c (.c (.r 4) (.c (.i .i64) .n)) .n) .n (fun z => (z.1, z.2.1.1.1, z.2.1.1.2.1)) (fun r => (r.1, ((r.2.1, r.2.2, ()), ()), ())) (fun _ => rfl))
def q_pred_checker_tree_v739_0 : LQ tb ((Int × Int × Int × Int × (List UInt8) × (List UInt8) × Int × Int × Int × (List UInt8)) × (Int × (List pred_Node) × Int)) := (LQ.m [] [0, 2, 7, 57, 58] (.c 0 (.ptr 0 0) (.c 2 (.i .i64) (.c 7 (.ptr 1 0) (.c 57 (.i .i64) (.c 58 (.i .i64) .n))))) (.c (.c (.r 4) (.c (.i .i64) .n)) (.c (.c (.i .u8) (.c (.i .u8) (.c .s (.c .s (.c (.i .u8) (.c (.i .i64) (.c (.i .u64) (.c .s .n)))))))) .n)) .n).re (fun a => ((a.1.2.1, a.1.2.2.2.1, a.2.1.2.1.1, a.2.1.2.1.2.1, a.2.1.2.1.2.2.1, a.2.1.2.1.2.2.2.1, a.2.1.2.1.2.2.2.2.1, a.2.1.2.1.2.2.2.2.2.1, a.2.1.2.1.2.2.2.2.2.2.1, a.2.1.2.1.2.2.2.2.2.2.2.1), (a.1.2.2.2.2.1, a.2.1.1.1, a.2.1.1.2.1))) (fun x => (((), x.1.1, (), x.1.2.1, x.2.1, ()), ((x.2.2.1, x.2.2.2, ()), (x.1.2.2.1, x.1.2.2.2.1, x.1.2.2.2.2.1, x.1.2.2.2.2.2.1, x.1.2.2.2.2.2.2.1, x.1.2.2.2.2.2.2.2.1, x.1.2.2.2.2.2.2.2.2.1, x.1.2.2.2.2.2.2.2.2.2, ()), ()), ())) (fun _ => rfl)
def f_pred_checker_tree_v739_0 (N : Nat) (c : Int × Int × Int × Int × (List UInt8) × (List UInt8) × Int × Int × Int × (List UInt8)) (next : (Int × (List pred_Node) × Int) → Option (Int × List pred_Node × Int)) (v : Int × (List pred_Node) × Int) : Option (Int × List pred_Node × Int) := s_pred_checker_tree_v739_1 N (SS_pred_checker_tree_v739 N) c.1 c.2.1 c.2.2.1 c.2.2.2.1 c.2.2.2.2.1 c.2.2.2.2.2.1 c.2.2.2.2.2.2.1 c.2.2.2.2.2.2.2.1 c.2.2.2.2.2.2.2.2.1 c.2.2.2.2.2.2.2.2.2 (fun u0 u1 u2 => next (u0, u1, u2)) v.1 v.2.1 v.2.2
abbrev r_pred_checker_tree_v739_0 (N : Nat) : (Int × Int × Int × Int × (List UInt8) × (List UInt8) × Int × Int × Int × (List UInt8)) × (Int × (List pred_Node) × Int) → Option (Int × List pred_Node × Int) := fun a => loopV (f_pred_checker_tree_v739_0 N a.1) N a.2
def C_pred_Check : Con tb := .s 13 [true] (.c (.r 4) .n) (fun N a => s_pred_Check N a.1) (R := Int) (.p (.i .i64)) (fun _ => ⟨rfl, (by kernel_rfl)⟩)
def C_predtext_Parse : Con tb := .p 54 [true, true, true] (.c (.r 7) (.c (.i .i64) (.c (.i .i64) .n))) (fun N a => s_predtext_Parse N a.1 a.2.1 a.2.2.1) (R := (List pred_Node × Int) ⊕ (List pred_Node × Int × Int × Int)) (.or (.m (R := List pred_Node × Int) (.tu (.c (.r 4) (.c (.i .i64) (.c .ni .n)))) .n .n (fun z => (z.1.1, z.1.2.1)) (fun r => ((r.1, r.2, (), ()), (), ())) (fun _ => rfl)) (.m (R := List pred_Node × Int × Int × Int) (.tu (.c (.r 4) (.c (.i .i64) (.o (.ifc 204 (.dp (.c (.i .i64) (.c (.i .i64) .n)))))))) .n .n (fun z => (z.1.1, z.1.2.1, z.1.2.2.1, z.1.2.2.2.1)) (fun r => ((r.1, r.2.1, r.2.2.1, r.2.2.2, ()), (), ())) (fun _ => rfl))) (fun r => by rcases r with _ | _ <;> exact rfl)
def C_slices_Clone_schema_Field : Con tb := .clone 138 2 (fun _ s => shClone 24 s)
def C_slices_Clone_schema_Field_D : Con tb := .cloneD 138 2 (fun _ s => shClone 24 s)
def C_bind_Last : Con tb := .p 230 [true, true] (.c (.r 1) (.c .s .n)) (fun N a => s_bind_Last N a.1 a.2.1) (R := event_Event × Bool) (.p (.tu (.c (.el tb_ok 8) (.o .b)))) (fun _ => rfl)
def C_law20_awake : Con tb := .s 8 [] .n (fun N a => s_law20_awake N) (R := Bool) (.p .b) (fun _ => ⟨rfl, (by kernel_rfl)⟩)
def C_law06_Over : Con tb := .s 22 [true] (.c (.r 3) .n) (fun N a => s_law06_Over N a.1) (R := Int) (.p (.i .i64)) (fun _ => ⟨rfl, (by kernel_rfl)⟩)
def q_law06_Over_0 : LQ tb (((List schema_Type)) × (Int)) := (LQ.m [] [0, 3] (.c 0 (.r 3) (.c 3 (.i .i64) .n)) .n .n).re (fun a => (a.1.1, a.1.2.1)) (fun x => ((x.1, x.2, ()), (), ())) (fun _ => rfl)
def q_law06_Over_2 : LQ tb (((List schema_Type) × Int) × (Int)) := (LQ.m [] [0, 3, 4] (.c 0 (.r 3) (.c 3 (.i .i64) (.c 4 (.i .i64) .n))) .n .n).re (fun a => ((a.1.1, a.1.2.1), a.1.2.2.1)) (fun x => ((x.1.1, x.1.2, x.2, ()), (), ())) (fun _ => rfl)
def f_law06_Over_2 (N : Nat) (next0 : ((List schema_Type)) × (Int) → Option Int) (c : (List schema_Type) × Int) (next : Int → Option Int) (v : Int) : Option Int := s_law06_Over_2 N c.1 c.2 (fun u0 => next0 (c.1, u0)) (fun u0 => next u0) v
abbrev r_law06_Over_2 (N : Nat) (next0 : ((List schema_Type)) × (Int) → Option Int) : ((List schema_Type) × Int) × (Int) → Option Int := fun a => loopV (f_law06_Over_2 N next0 a.1) N a.2
def f_law06_Over_0 (N : Nat) (c : (List schema_Type)) (next : Int → Option Int) (v : Int) : Option Int := s_law06_Over_1 N c (fun u0 => next u0) v
abbrev r_law06_Over_0 (N : Nat) : ((List schema_Type)) × (Int) → Option Int := fun a => loopV (f_law06_Over_0 N a.1) N a.2
def C_law07_Over : Con tb := .s 24 [true, true] (.c (.r 8) (.c (.i .i64) .n)) (fun N a => s_law07_Over N a.1 a.2.1) (R := Int) (.p (.i .i64)) (fun _ => ⟨rfl, (by kernel_rfl)⟩)
def q_law07_Over_0 : LQ tb (((List event_Event)) × (Int)) := (LQ.m [] [0, 5] (.c 0 (.r 8) (.c 5 (.i .i64) .n)) .n .n).re (fun a => (a.1.1, a.1.2.1)) (fun x => ((x.1, x.2, ()), (), ())) (fun _ => rfl)
def q_law07_Over_2 : LQ tb (((List event_Event) × Int) × (Int)) := (LQ.m [] [0, 5, 6] (.c 0 (.r 8) (.c 5 (.i .i64) (.c 6 (.i .i64) .n))) .n .n).re (fun a => ((a.1.1, a.1.2.1), a.1.2.2.1)) (fun x => ((x.1.1, x.1.2, x.2, ()), (), ())) (fun _ => rfl)
def f_law07_Over_2 (N : Nat) (next0 : ((List event_Event)) × (Int) → Option Int) (c : (List event_Event) × Int) (next : Int → Option Int) (v : Int) : Option Int := s_law07_Over_2 N c.1 c.2 (fun u0 => next0 (c.1, u0)) (fun u0 => next u0) v
abbrev r_law07_Over_2 (N : Nat) (next0 : ((List event_Event)) × (Int) → Option Int) : ((List event_Event) × Int) × (Int) → Option Int := fun a => loopV (f_law07_Over_2 N next0 a.1) N a.2
def f_law07_Over_0 (N : Nat) (c : (List event_Event)) (next : Int → Option Int) (v : Int) : Option Int := s_law07_Over_1 N c (fun u0 => next u0) v
abbrev r_law07_Over_0 (N : Nat) : ((List event_Event)) × (Int) → Option Int := fun a => loopV (f_law07_Over_0 N a.1) N a.2
def C_law19_Long : Con tb := .s 23 [true] (.c (.r 1) .n) (fun N a => s_law19_Long N a.1) (R := Int) (.p (.i .i64)) (fun _ => ⟨rfl, (by kernel_rfl)⟩)
def q_law19_Long_0 : LQ tb (((List bind_Pair)) × (Int)) := (LQ.m [] [0, 3] (.c 0 (.r 1) (.c 3 (.i .i64) .n)) .n .n).re (fun a => (a.1.1, a.1.2.1)) (fun x => ((x.1, x.2, ()), (), ())) (fun _ => rfl)
def f_law19_Long_0 (N : Nat) (c : (List bind_Pair)) (next : Int → Option Int) (v : Int) : Option Int := s_law19_Long_1 N c (fun u0 => next u0) v
abbrev r_law19_Long_0 (N : Nat) : ((List bind_Pair)) × (Int) → Option Int := fun a => loopV (f_law19_Long_0 N a.1) N a.2
def C_law20_Over : Con tb := .s 7 [true] (.c (.el tb_ok 9) .n) (fun N a => s_law20_Over N a.1) (R := Int) (.p (.i .i64)) (fun _ => ⟨rfl, (by kernel_rfl)⟩)
def C_law11_Own : Con tb := .p 9 [true] (.c (.r 4) .n) (fun N a => s_law11_Own N a.1) (R := List pred_Node) (.p (.r 4)) (fun _ => rfl)
def q_law11_Own_0 : LQ tb (((List pred_Node)) × (Int × (List pred_Node))) := (LQ.m [(3, none, 4)] [0, 3, 4] (.c 0 (.r 4) (.c 3 (.own 0) (.c 4 (.i .i64) .n))) .n (.l 4 .n)).re (fun a => (a.1.1, (a.1.2.2.1, a.2.2.1))) (fun x => ((x.1, (), x.2.1, ()), (), x.2.2, ())) (fun _ => rfl)
def f_law11_Own_0 (N : Nat) (c : (List pred_Node)) (next : (Int × (List pred_Node)) → Option (List pred_Node)) (v : Int × (List pred_Node)) : Option (List pred_Node) := s_law11_Own_1 N c (fun u0 u1 => next (u0, u1)) v.1 v.2
abbrev r_law11_Own_0 (N : Nat) : ((List pred_Node)) × (Int × (List pred_Node)) → Option (List pred_Node) := fun a => loopV (f_law11_Own_0 N a.1) N a.2
def C_law06_Own : Con tb := .p 10 [true] (.c (.r 3) .n) (fun N a => s_law06_Own N a.1) (R := List schema_Type) (.p (.r 3)) (fun _ => rfl)
def q_law06_Own_0 : LQ tb (((List schema_Type)) × (Int × (List schema_Type))) := (LQ.m [(3, none, 3)] [0, 3, 4] (.c 0 (.r 3) (.c 3 (.own 0) (.c 4 (.i .i64) .n))) .n (.l 3 .n)).re (fun a => (a.1.1, (a.1.2.2.1, a.2.2.1))) (fun x => ((x.1, (), x.2.1, ()), (), x.2.2, ())) (fun _ => rfl)
def q_law06_Own_2 : LQ tb (((List schema_Type) × Int × (List UInt8)) × (Int × (List schema_Type) × (List schema_Field))) := (LQ.m [(5, some 1, 2)] [0, 3, 4, 5, 6] (.c 0 (.r 3) (.c 3 (.own 0) (.c 4 (.i .i64) (.c 5 (.ptr 0 0) (.c 6 (.i .i64) .n))))) (.c (.c .s (.c (.own 1) .n)) .n) (.l 3 (.l 2 .n))).re (fun a => ((a.1.1, a.1.2.2.1, a.2.1.1.1), (a.1.2.2.2.2.1, a.2.2.1, a.2.2.2.1))) (fun x => ((x.1.1, (), x.1.2.1, (), x.2.1, ()), ((x.1.2.2, (), ()), ()), x.2.2.1, x.2.2.2, ())) (fun _ => rfl)
def f_law06_Own_2 (N : Nat) (next0 : ((List schema_Type)) × (Int × (List schema_Type)) → Option (List schema_Type)) (c : (List schema_Type) × Int × (List UInt8)) (next : (Int × (List schema_Type) × (List schema_Field)) → Option (List schema_Type)) (v : Int × (List schema_Type) × (List schema_Field)) : Option (List schema_Type) := s_law06_Own_2 N c.1 c.2.1 c.2.2 (fun u0 u1 => next0 (c.1, (u0, u1))) (fun u0 u1 u2 => next (u0, u1, u2)) v.1 v.2.1 v.2.2
abbrev r_law06_Own_2 (N : Nat) (next0 : ((List schema_Type)) × (Int × (List schema_Type)) → Option (List schema_Type)) : ((List schema_Type) × Int × (List UInt8)) × (Int × (List schema_Type) × (List schema_Field)) → Option (List schema_Type) := fun a => loopV (f_law06_Own_2 N next0 a.1) N a.2
def f_law06_Own_0 (N : Nat) (c : (List schema_Type)) (next : (Int × (List schema_Type)) → Option (List schema_Type)) (v : Int × (List schema_Type)) : Option (List schema_Type) := s_law06_Own_1 N c (fun u0 u1 => next (u0, u1)) v.1 v.2
abbrev r_law06_Own_0 (N : Nat) : ((List schema_Type)) × (Int × (List schema_Type)) → Option (List schema_Type) := fun a => loopV (f_law06_Own_0 N a.1) N a.2
def C_law06_Vals : Con tb := .p 26 [true] (.c (.r 0) .n) (fun N a => s_law06_Vals N a.1) (R := List value_Value) (.p (.r 0)) (fun _ => rfl)
def q_law06_Vals_0 : LQ tb (((List value_Value)) × (Int × (List value_Value))) := (LQ.m [(3, none, 0)] [0, 3, 4] (.c 0 (.r 0) (.c 3 (.own 0) (.c 4 (.i .i64) .n))) .n (.l 0 .n)).re (fun a => (a.1.1, (a.1.2.2.1, a.2.2.1))) (fun x => ((x.1, (), x.2.1, ()), (), x.2.2, ())) (fun _ => rfl)
def f_law06_Vals_0 (N : Nat) (c : (List value_Value)) (next : (Int × (List value_Value)) → Option (List value_Value)) (v : Int × (List value_Value)) : Option (List value_Value) := s_law06_Vals_1 N c (fun u0 u1 => next (u0, u1)) v.1 v.2
abbrev r_law06_Vals_0 (N : Nat) : ((List value_Value)) × (Int × (List value_Value)) → Option (List value_Value) := fun a => loopV (f_law06_Vals_0 N a.1) N a.2
def C_law07_Own : Con tb := .p 12 [true] (.c (.el tb_ok 8) .n) (fun N a => s_law07_Own N a.1) (R := event_Event) (.p (.el tb_ok 8)) (fun _ => rfl)
def C_law19_Pairs_own : Con tb := .m 11 [true] (.c (.r 1) .n) .n .n (fun N a => s_law19_Pairs_own N a.1.1) (R := List bind_Pair) (.m (R := List bind_Pair) (.own 0) .n (.l 1 .n) (fun z => z.2.2.1) (fun r => ((), (), r, ())) (fun _ => rfl))
def q_law19_Pairs_own_0 : LQ tb (((List bind_Pair)) × (Int × (List bind_Pair))) := (LQ.m [(3, none, 1)] [0, 3, 4] (.c 0 (.r 1) (.c 3 (.own 0) (.c 4 (.i .i64) .n))) .n (.l 1 .n)).re (fun a => (a.1.1, (a.1.2.2.1, a.2.2.1))) (fun x => ((x.1, (), x.2.1, ()), (), x.2.2, ())) (fun _ => rfl)
def f_law19_Pairs_own_0 (N : Nat) (c : (List bind_Pair)) (next : (Int × (List bind_Pair)) → Option (List bind_Pair)) (v : Int × (List bind_Pair)) : Option (List bind_Pair) := s_law19_Pairs_own_1 N c (fun u0 u1 => next (u0, u1)) v.1 v.2
abbrev r_law19_Pairs_own_0 (N : Nat) : ((List bind_Pair)) × (Int × (List bind_Pair)) → Option (List bind_Pair) := fun a => loopV (f_law19_Pairs_own_0 N a.1) N a.2
def C_slices_Sort_string_v986 : Con tb := .m 33 [false] (.c (.own 0) .n) .n (.l 6 .n) (fun N a => s_slices_Sort_string_v986 N a.2.2.1) (R := List (List UInt8)) (.m (R := List (List UInt8)) (.tu .n) .n (.l 6 .n) (fun z => z.2.2.1) (fun r => ((), (), r, ())) (fun _ => rfl))
def C_slices_Compact_string_v263_own : Con tb := .m 34 [false] (.c (.own 0) .n) .n (.l 6 .n) (fun N a => s_slices_Compact_string_v263_own N a.2.2.1) (R := List (List UInt8)) (.m (R := List (List UInt8)) (.own 1) .n (.d (.l 6 .n)) (fun z => z.2.2.1) (fun r => ((), (), r, ())) (fun _ => rfl))
def C_pred_Vars : Con tb := .p 20 [true] (.c (.r 4) .n) (fun N a => s_pred_Vars N a.1) (R := List (List UInt8)) (.p (.r 6)) (fun _ => rfl)
def q_pred_Vars_0 : LQ tb (((List pred_Node) × Int) × (Int × (List (List UInt8)))) := (LQ.m [(3, none, 6)] [3, 6, 7, 8] (.c 3 (.own 0) (.c 6 (.r 4) (.c 7 (.i .i64) (.c 8 (.i .i64) .n)))) .n (.l 6 .n)).re (fun a => ((a.1.2.1, a.1.2.2.1), (a.1.2.2.2.1, a.2.2.1))) (fun x => (((), x.1.1, x.1.2, x.2.1, ()), (), x.2.2, ())) (fun _ => rfl)
def f_pred_Vars_0 (N : Nat) (c : (List pred_Node) × Int) (next : (Int × (List (List UInt8))) → Option (List (List UInt8))) (v : Int × (List (List UInt8))) : Option (List (List UInt8)) := s_pred_Vars_1 N c.1 c.2 (fun u0 u1 => next (u0, u1)) v.1 v.2
abbrev r_pred_Vars_0 (N : Nat) : ((List pred_Node) × Int) × (Int × (List (List UInt8))) → Option (List (List UInt8)) := fun a => loopV (f_pred_Vars_0 N a.1) N a.2
def C_judge_reader_side_v501 : Con tb := .m 29 [false] (.c (.ptr 0 0) .n) (.c (.c (.r 4) (.c (.i .i64) .n)) .n) .n (fun N a => s_judge_reader_side_v501 N a.2.1.1.1 a.2.1.1.2.1) (R := judge_side × List pred_Node × Int) (.m (R := judge_side × List pred_Node × Int) (.tr 10) (.c (.c (.r 4) (.c (.i .i64) .n)) .n) .n (fun z => (z.1, z.2.1.1.1, z.2.1.1.2.1)) (fun r => (r.1, ((r.2.1, r.2.2, ()), ()), ())) (fun _ => rfl))
def C_judge_reader_truth_v501 : Con tb := .m 28 [false] (.c (.ptr 0 0) .n) (.c (.c (.r 4) (.c (.i .i64) .n)) .n) .n (fun N a => s_judge_reader_truth_v501 N a.2.1.1.1 a.2.1.1.2.1) (R := judge_truth × List pred_Node × Int) (.m (R := judge_truth × List pred_Node × Int) (.tr 11) (.c (.c (.r 4) (.c (.i .i64) .n)) .n) .n (fun z => (z.1, z.2.1.1.1, z.2.1.1.2.1)) (fun r => (r.1, ((r.2.1, r.2.2, ()), ()), ())) (fun _ => rfl))
def C_judge_lit_value_v072 : Con tb := .m 226 [true, false] (.c (.el tb_ok 12) (.c (.ptr 0 0) .n)) (.c (.c (.r 3) (.c (.r 1) (.c (.i .i64) (.c (.i .i64) (.c (.i .i64) (.c .s (.c (.r 0) .n))))))) .n) .n (fun N a => s_judge_lit_value_v072 N a.1.1 a.2.1.1.1 a.2.1.1.2.1 a.2.1.1.2.2.1 a.2.1.1.2.2.2.1 a.2.1.1.2.2.2.2.1 a.2.1.1.2.2.2.2.2.1 a.2.1.1.2.2.2.2.2.2.1) (R := value_Value × Bool × List schema_Type × List bind_Pair × Int × Int × Int × List UInt8 × List value_Value) (.m (R := value_Value × Bool × List schema_Type × List bind_Pair × Int × Int × Int × List UInt8 × List value_Value) (.tu (.c (.el tb_ok 0) (.o .b))) (.c (.c (.r 3) (.c (.r 1) (.c (.i .i64) (.c (.i .i64) (.c (.i .i64) (.c .s (.c (.r 0) .n))))))) .n) .n (fun z => (z.1.1, z.1.2, z.2.1.1.1, z.2.1.1.2.1, z.2.1.1.2.2.1, z.2.1.1.2.2.2.1, z.2.1.1.2.2.2.2.1, z.2.1.1.2.2.2.2.2.1, z.2.1.1.2.2.2.2.2.2.1)) (fun r => ((r.1, r.2.1), ((r.2.2.1, r.2.2.2.1, r.2.2.2.2.1, r.2.2.2.2.2.1, r.2.2.2.2.2.2.1, r.2.2.2.2.2.2.2.1, r.2.2.2.2.2.2.2.2, ()), ()), ())) (fun _ => rfl))
def C_schema_Find : Con tb := .p 96 [true, true] (.c (.r 3) (.c .s .n)) (fun N a => s_schema_Find N a.1 a.2.1) (R := schema_Type × Bool) (.p (.tu (.c (.el tb_ok 3) (.o .b)))) (fun _ => rfl)
def q_schema_Find_0 : LQ tb (((List UInt8) × (List schema_Type) × Int) × (Int)) := (LQ.m [] [1, 4, 8, 9, 10] (.c 1 .s (.c 4 (.ptr 0 0) (.c 8 (.r 3) (.c 9 (.i .i64) (.c 10 (.i .i64) .n))))) (.c (.c (.ls []) (.c .e .n)) .n) .n).re (fun a => ((a.1.1, a.1.2.2.1, a.1.2.2.2.1), a.1.2.2.2.2.1)) (fun x => ((x.1.1, (), x.1.2.1, x.1.2.2, x.2, ()), (((), (), ()), ()), ())) (fun _ => rfl)
def f_schema_Find_0 (N : Nat) (c : (List UInt8) × (List schema_Type) × Int) (next : Int → Option (schema_Type × Bool)) (v : Int) : Option (schema_Type × Bool) := s_schema_Find_1 N c.1 c.2.1 c.2.2 (fun u0 => next u0) v
abbrev r_schema_Find_0 (N : Nat) : ((List UInt8) × (List schema_Type) × Int) × (Int) → Option (schema_Type × Bool) := fun a => loopV (f_schema_Find_0 N a.1) N a.2
def C_schema_Type_Field : Con tb := .s 137 [true, true] (.c (.el tb_ok 3) (.c .s .n)) (fun N a => s_schema_Type_Field N a.1 a.2.1) (R := Int × Int) (.p (.tu (.c (.i .i64) (.o (.i .u8))))) (fun _ => ⟨rfl, (by kernel_rfl)⟩)
def q_schema_Type_Field_0 : LQ tb (((List UInt8) × (List schema_Field) × Int) × (Int)) := (LQ.m [] [1, 9, 10, 11] (.c 1 .s (.c 9 (.r 2) (.c 10 (.i .i64) (.c 11 (.i .i64) .n)))) .n .n).re (fun a => ((a.1.1, a.1.2.1, a.1.2.2.1), a.1.2.2.2.1)) (fun x => ((x.1.1, x.1.2.1, x.1.2.2, x.2, ()), (), ())) (fun _ => rfl)
def f_schema_Type_Field_0 (N : Nat) (c : (List UInt8) × (List schema_Field) × Int) (next : Int → Option (Int × Int)) (v : Int) : Option (Int × Int) := s_schema_Type_Field_1 N c.1 c.2.1 c.2.2 (fun u0 => next u0) v
abbrev r_schema_Type_Field_0 (N : Nat) : ((List UInt8) × (List schema_Field) × Int) × (Int) → Option (Int × Int) := fun a => loopV (f_schema_Type_Field_0 N a.1) N a.2
def C_event_Event_Value : Con tb := .p 228 [true, true, true] (.c (.el tb_ok 8) (.c (.r 3) (.c .s .n))) (fun N a => s_event_Event_Value N a.1 a.2.1 a.2.2.1) (R := value_Value × Bool) (.p (.tu (.c (.el tb_ok 0) (.o .b)))) (fun _ => rfl)
def C_judge_of_value_v421 : Con tb := .m 229 [true, false] (.c (.el tb_ok 13) (.c (.ptr 0 0) .n)) (.c (.c (.r 3) (.c (.r 1) (.c (.i .i64) (.c (.i .i64) (.c (.i .i64) (.c .s (.c (.r 0) .n))))))) .n) .n (fun N a => s_judge_of_value_v421 N a.1.1 a.2.1.1.1 a.2.1.1.2.1 a.2.1.1.2.2.1 a.2.1.1.2.2.2.1 a.2.1.1.2.2.2.2.1 a.2.1.1.2.2.2.2.2.1 a.2.1.1.2.2.2.2.2.2.1) (R := value_Value × Bool × List schema_Type × List bind_Pair × Int × Int × Int × List UInt8 × List value_Value) (.m (R := value_Value × Bool × List schema_Type × List bind_Pair × Int × Int × Int × List UInt8 × List value_Value) (.tu (.c (.el tb_ok 0) (.o .b))) (.c (.c (.r 3) (.c (.r 1) (.c (.i .i64) (.c (.i .i64) (.c (.i .i64) (.c .s (.c (.r 0) .n))))))) .n) .n (fun z => (z.1.1, z.1.2, z.2.1.1.1, z.2.1.1.2.1, z.2.1.1.2.2.1, z.2.1.1.2.2.2.1, z.2.1.1.2.2.2.2.1, z.2.1.1.2.2.2.2.2.1, z.2.1.1.2.2.2.2.2.2.1)) (fun r => ((r.1, r.2.1), ((r.2.2.1, r.2.2.2.1, r.2.2.2.2.1, r.2.2.2.2.2.1, r.2.2.2.2.2.2.1, r.2.2.2.2.2.2.2.1, r.2.2.2.2.2.2.2.2, ()), ()), ())) (fun _ => rfl))
def C_judge_own_value_v282 : Con tb := .m 227 [true, false] (.c (.el tb_ok 14) (.c (.ptr 0 0) .n)) (.c (.c (.r 3) (.c (.r 1) (.c (.i .i64) (.c (.i .i64) (.c (.i .i64) (.c .s (.c (.r 0) .n))))))) .n) .n (fun N a => s_judge_own_value_v282 N a.1.1 a.2.1.1.1 a.2.1.1.2.1 a.2.1.1.2.2.1 a.2.1.1.2.2.2.1 a.2.1.1.2.2.2.2.1 a.2.1.1.2.2.2.2.2.1 a.2.1.1.2.2.2.2.2.2.1) (R := value_Value × Bool × List schema_Type × List bind_Pair × Int × Int × Int × List UInt8 × List value_Value) (.m (R := value_Value × Bool × List schema_Type × List bind_Pair × Int × Int × Int × List UInt8 × List value_Value) (.tu (.c (.el tb_ok 0) (.o .b))) (.c (.c (.r 3) (.c (.r 1) (.c (.i .i64) (.c (.i .i64) (.c (.i .i64) (.c .s (.c (.r 0) .n))))))) .n) .n (fun z => (z.1.1, z.1.2, z.2.1.1.1, z.2.1.1.2.1, z.2.1.1.2.2.1, z.2.1.1.2.2.2.1, z.2.1.1.2.2.2.2.1, z.2.1.1.2.2.2.2.2.1, z.2.1.1.2.2.2.2.2.2.1)) (fun r => ((r.1, r.2.1), ((r.2.2.1, r.2.2.2.1, r.2.2.2.2.1, r.2.2.2.2.2.1, r.2.2.2.2.2.2.1, r.2.2.2.2.2.2.2.1, r.2.2.2.2.2.2.2.2, ()), ()), ())) (fun _ => rfl))
def C_compare_numeric : Con tb := .s 197 [true] (.c (.i .u8) .n) (fun N a => s_compare_numeric N a.1) (R := Bool) (.p .b) (fun _ => ⟨rfl, (by kernel_rfl)⟩)
def C_compare_summed : Con tb := .s 236 [true, true] (.c (.el tb_ok 0) (.c (.el tb_ok 0) .n)) (fun N a => s_compare_summed N a.1 a.2.1) (R := Bool) (.p .b) (fun _ => ⟨rfl, (by kernel_rfl)⟩)
def C_value_OfInt : Con tb := .s 37 [true] (.c (.i .i64) .n) (fun N a => s_value_OfInt N a.1) (R := value_Value) (.p (.el tb_ok 0)) (fun _ => ⟨rfl, (by kernel_rfl)⟩)
def C_compare_whole : Con tb := .p 237 [true, true] (.c (.i .i64) (.c (.i .i64) .n)) (fun N a => s_compare_whole N a.1 a.2.1) (R := value_Value × Bool) (.p (.tu (.c (.el tb_ok 0) (.o .b)))) (fun _ => rfl)
def C_real_OfInt : Con tb := .s 242 [true] (.c (.i .i64) .n) (fun N a => s_real_OfInt N a.1) (R := Int) (.p (.i .u64)) (fun _ => ⟨rfl, (by kernel_rfl)⟩)
def C_compare_double : Con tb := .s 239 [true] (.c (.el tb_ok 0) .n) (fun N a => s_compare_double N a.1) (R := Int) (.p (.i .u64)) (fun _ => ⟨rfl, (by kernel_rfl)⟩)
def C_real_Neg : Con tb := .s 240 [true] (.c (.i .u64) .n) (fun N a => s_real_Neg N a.1) (R := Int) (.p (.i .u64)) (fun _ => ⟨rfl, (by kernel_rfl)⟩)
def C_real_Add : Con tb := .s 238 [true, true] (.c (.i .u64) (.c (.i .u64) .n)) (fun N a => s_real_Add N a.1 a.2.1) (R := Int) (.p (.i .u64)) (fun _ => ⟨rfl, (by kernel_rfl)⟩)
def C_value_OfReal : Con tb := .s 152 [true] (.c (.i .u64) .n) (fun N a => s_value_OfReal N a.1) (R := value_Value) (.p (.el tb_ok 0)) (fun _ => ⟨rfl, (by kernel_rfl)⟩)
def C_compare_Minus : Con tb := .p 234 [true, true] (.c (.el tb_ok 0) (.c (.el tb_ok 0) .n)) (fun N a => s_compare_Minus N a.1 a.2.1) (R := value_Value × Bool) (.p (.tu (.c (.el tb_ok 0) (.o .b)))) (fun _ => rfl)
def C_compare_Plus : Con tb := .p 235 [true, true] (.c (.el tb_ok 0) (.c (.el tb_ok 0) .n)) (fun N a => s_compare_Plus N a.1 a.2.1) (R := value_Value × Bool) (.p (.tu (.c (.el tb_ok 0) (.o .b)))) (fun _ => rfl)
def C_judge_sum_value_v486 : Con tb := .m 233 [true, false] (.c (.el tb_ok 15) (.c (.ptr 0 0) .n)) (.c (.c (.r 3) (.c (.r 1) (.c (.i .i64) (.c (.i .i64) (.c (.i .i64) (.c .s (.c (.r 0) .n))))))) .n) .n (fun N a => s_judge_sum_value_v486 N a.1.1 a.2.1.1.1 a.2.1.1.2.1 a.2.1.1.2.2.1 a.2.1.1.2.2.2.1 a.2.1.1.2.2.2.2.1 a.2.1.1.2.2.2.2.2.1 a.2.1.1.2.2.2.2.2.2.1) (R := value_Value × Bool × List schema_Type × List bind_Pair × Int × Int × Int × List UInt8 × List value_Value) (.m (R := value_Value × Bool × List schema_Type × List bind_Pair × Int × Int × Int × List UInt8 × List value_Value) (.tu (.c (.el tb_ok 0) (.o .b))) (.c (.c (.r 3) (.c (.r 1) (.c (.i .i64) (.c (.i .i64) (.c (.i .i64) (.c .s (.c (.r 0) .n))))))) .n) .n (fun z => (z.1.1, z.1.2, z.2.1.1.1, z.2.1.1.2.1, z.2.1.1.2.2.1, z.2.1.1.2.2.2.1, z.2.1.1.2.2.2.2.1, z.2.1.1.2.2.2.2.2.1, z.2.1.1.2.2.2.2.2.2.1)) (fun r => ((r.1, r.2.1), ((r.2.2.1, r.2.2.2.1, r.2.2.2.2.1, r.2.2.2.2.2.1, r.2.2.2.2.2.2.1, r.2.2.2.2.2.2.2.1, r.2.2.2.2.2.2.2.2, ()), ()), ())) (fun _ => rfl))
def C_real_Equal : Con tb := .s 203 [true, true] (.c (.i .u64) (.c (.i .u64) .n)) (fun N a => s_real_Equal N a.1 a.2.1) (R := Bool) (.p .b) (fun _ => ⟨rfl, (by kernel_rfl)⟩)
def C_real_Less : Con tb := .s 204 [true, true] (.c (.i .u64) (.c (.i .u64) .n)) (fun N a => s_real_Less N a.1 a.2.1) (R := Bool) (.p .b) (fun _ => ⟨rfl, (by kernel_rfl)⟩)
def C_compare_doubles : Con tb := .s 200 [true, true] (.c (.i .u64) (.c (.i .u64) .n)) (fun N a => s_compare_doubles N a.1 a.2.1) (R := Int × Bool) (.p (.tu (.c (.i .i64) (.o .b)))) (fun _ => ⟨rfl, (by kernel_rfl)⟩)
def C_real_Versus : Con tb := .s 201 [true, true] (.c (.i .i64) (.c (.i .u64) .n)) (fun N a => s_real_Versus N a.1 a.2.1) (R := Int × Bool) (.p (.tu (.c (.i .i64) (.o .b)))) (fun _ => ⟨rfl, (by kernel_rfl)⟩)
def C_cmp_isNaN_uint8 : Con tb := .s 214 [true] (.c (.i .u8) .n) (fun N a => s_cmp_isNaN_uint8 N a.1) (R := Bool) (.p .b) (fun _ => ⟨rfl, (by kernel_rfl)⟩)
def C_cmp_Compare_uint8 : Con tb := .s 207 [true, true] (.c (.i .u8) (.c (.i .u8) .n)) (fun N a => s_cmp_Compare_uint8 N a.1 a.2.1) (R := Int) (.p (.i .i64)) (fun _ => ⟨rfl, (by kernel_rfl)⟩)
def C_cmp_isNaN_int : Con tb := .s 215 [true] (.c (.i .i64) .n) (fun N a => s_cmp_isNaN_int N a.1) (R := Bool) (.p .b) (fun _ => ⟨rfl, (by kernel_rfl)⟩)
def C_cmp_Compare_int : Con tb := .s 208 [true, true] (.c (.i .i64) (.c (.i .i64) .n)) (fun N a => s_cmp_Compare_int N a.1 a.2.1) (R := Int) (.p (.i .i64)) (fun _ => ⟨rfl, (by kernel_rfl)⟩)
def C_real_Rank : Con tb := .s 210 [true] (.c (.i .u64) .n) (fun N a => s_real_Rank N a.1) (R := Int) (.p (.i .u64)) (fun _ => ⟨rfl, (by kernel_rfl)⟩)
def C_cmp_isNaN_uint64 : Con tb := .s 216 [true] (.c (.i .u64) .n) (fun N a => s_cmp_isNaN_uint64 N a.1) (R := Bool) (.p .b) (fun _ => ⟨rfl, (by kernel_rfl)⟩)
def C_cmp_Compare_uint64 : Con tb := .s 209 [true, true] (.c (.i .u64) (.c (.i .u64) .n)) (fun N a => s_cmp_Compare_uint64 N a.1 a.2.1) (R := Int) (.p (.i .i64)) (fun _ => ⟨rfl, (by kernel_rfl)⟩)
def C_cmp_isNaN_string : Con tb := .s 120 [true] (.c .s .n) (fun N a => s_cmp_isNaN_string N a.1) (R := Bool) (.p .b) (fun _ => ⟨rfl, (by kernel_rfl)⟩)
def C_cmp_Compare_string : Con tb := .s 211 [true, true] (.c .s (.c .s .n)) (fun N a => s_cmp_Compare_string N a.1 a.2.1) (R := Int) (.p (.i .i64)) (fun _ => ⟨rfl, (by kernel_rfl)⟩)
def C_value_Rank : Con tb := .s 202 [true, true] (.c (.el tb_ok 0) (.c (.el tb_ok 0) .n)) (fun N a => s_value_Rank N a.1 a.2.1) (R := Int) (.p (.i .i64)) (fun _ => ⟨rfl, (by kernel_rfl)⟩)
def C_compare_order : Con tb := .s 198 [true, true] (.c (.el tb_ok 0) (.c (.el tb_ok 0) .n)) (fun N a => s_compare_order N a.1 a.2.1) (R := Int × Bool) (.p (.tu (.c (.i .i64) (.o .b)))) (fun _ => ⟨rfl, (by kernel_rfl)⟩)
def C_compare_says : Con tb := .s 199 [true, true] (.c (.i .u8) (.c (.i .i64) .n)) (fun N a => s_compare_says N a.1 a.2.1) (R := Bool) (.p .b) (fun _ => ⟨rfl, (by kernel_rfl)⟩)
def C_compare_Holds : Con tb := .s 196 [true, true, true] (.c (.i .u8) (.c (.el tb_ok 0) (.c (.el tb_ok 0) .n))) (fun N a => s_compare_Holds N a.1 a.2.1 a.2.2.1) (R := Bool) (.p .b) (fun _ => ⟨rfl, (by kernel_rfl)⟩)
def C_judge_test_holds_v233 : Con tb := .m 195 [true, false] (.c (.el tb_ok 16) (.c (.ptr 0 0) .n)) (.c (.c (.r 3) (.c (.r 1) (.c (.i .i64) (.c (.i .i64) (.c (.i .i64) (.c .s (.c (.r 0) .n))))))) .n) .n (fun N a => s_judge_test_holds_v233 N a.1.1 a.2.1.1.1 a.2.1.1.2.1 a.2.1.1.2.2.1 a.2.1.1.2.2.2.1 a.2.1.1.2.2.2.2.1 a.2.1.1.2.2.2.2.2.1 a.2.1.1.2.2.2.2.2.2.1) (R := Bool × List schema_Type × List bind_Pair × Int × Int × Int × List UInt8 × List value_Value) (.m (R := Bool × List schema_Type × List bind_Pair × Int × Int × Int × List UInt8 × List value_Value) .b (.c (.c (.r 3) (.c (.r 1) (.c (.i .i64) (.c (.i .i64) (.c (.i .i64) (.c .s (.c (.r 0) .n))))))) .n) .n (fun z => (z.1, z.2.1.1.1, z.2.1.1.2.1, z.2.1.1.2.2.1, z.2.1.1.2.2.2.1, z.2.1.1.2.2.2.2.1, z.2.1.1.2.2.2.2.2.1, z.2.1.1.2.2.2.2.2.2.1)) (fun r => (r.1, ((r.2.1, r.2.2.1, r.2.2.2.1, r.2.2.2.2.1, r.2.2.2.2.2.1, r.2.2.2.2.2.2.1, r.2.2.2.2.2.2.2, ()), ()), ())) (fun _ => rfl))
def C_judge_and_holds_v355 : Con tb := .m 192 [true, false] (.c (.el tb_ok 17) (.c (.ptr 0 0) .n)) (.c (.c (.r 3) (.c (.r 1) (.c (.i .i64) (.c (.i .i64) (.c (.i .i64) (.c .s (.c (.r 0) .n))))))) .n) .n (fun N a => s_judge_and_holds_v355 N a.1.1 a.2.1.1.1 a.2.1.1.2.1 a.2.1.1.2.2.1 a.2.1.1.2.2.2.1 a.2.1.1.2.2.2.2.1 a.2.1.1.2.2.2.2.2.1 a.2.1.1.2.2.2.2.2.2.1) (R := Bool × List schema_Type × List bind_Pair × Int × Int × Int × List UInt8 × List value_Value) (.m (R := Bool × List schema_Type × List bind_Pair × Int × Int × Int × List UInt8 × List value_Value) .b (.c (.c (.r 3) (.c (.r 1) (.c (.i .i64) (.c (.i .i64) (.c (.i .i64) (.c .s (.c (.r 0) .n))))))) .n) .n (fun z => (z.1, z.2.1.1.1, z.2.1.1.2.1, z.2.1.1.2.2.1, z.2.1.1.2.2.2.1, z.2.1.1.2.2.2.2.1, z.2.1.1.2.2.2.2.2.1, z.2.1.1.2.2.2.2.2.2.1)) (fun r => (r.1, ((r.2.1, r.2.2.1, r.2.2.2.1, r.2.2.2.2.1, r.2.2.2.2.2.1, r.2.2.2.2.2.2.1, r.2.2.2.2.2.2.2, ()), ()), ())) (fun _ => rfl))
def C_judge_not_holds_v301 : Con tb := .m 194 [true, false] (.c (.el tb_ok 18) (.c (.ptr 0 0) .n)) (.c (.c (.r 3) (.c (.r 1) (.c (.i .i64) (.c (.i .i64) (.c (.i .i64) (.c .s (.c (.r 0) .n))))))) .n) .n (fun N a => s_judge_not_holds_v301 N a.1.1 a.2.1.1.1 a.2.1.1.2.1 a.2.1.1.2.2.1 a.2.1.1.2.2.2.1 a.2.1.1.2.2.2.2.1 a.2.1.1.2.2.2.2.2.1 a.2.1.1.2.2.2.2.2.2.1) (R := Bool × List schema_Type × List bind_Pair × Int × Int × Int × List UInt8 × List value_Value) (.m (R := Bool × List schema_Type × List bind_Pair × Int × Int × Int × List UInt8 × List value_Value) .b (.c (.c (.r 3) (.c (.r 1) (.c (.i .i64) (.c (.i .i64) (.c (.i .i64) (.c .s (.c (.r 0) .n))))))) .n) .n (fun z => (z.1, z.2.1.1.1, z.2.1.1.2.1, z.2.1.1.2.2.1, z.2.1.1.2.2.2.1, z.2.1.1.2.2.2.2.1, z.2.1.1.2.2.2.2.2.1, z.2.1.1.2.2.2.2.2.2.1)) (fun r => (r.1, ((r.2.1, r.2.2.1, r.2.2.2.1, r.2.2.2.2.1, r.2.2.2.2.2.1, r.2.2.2.2.2.2.1, r.2.2.2.2.2.2.2, ()), ()), ())) (fun _ => rfl))
def C_judge_or_holds_v355 : Con tb := .m 193 [true, false] (.c (.el tb_ok 17) (.c (.ptr 0 0) .n)) (.c (.c (.r 3) (.c (.r 1) (.c (.i .i64) (.c (.i .i64) (.c (.i .i64) (.c .s (.c (.r 0) .n))))))) .n) .n (fun N a => s_judge_or_holds_v355 N a.1.1 a.2.1.1.1 a.2.1.1.2.1 a.2.1.1.2.2.1 a.2.1.1.2.2.2.1 a.2.1.1.2.2.2.2.1 a.2.1.1.2.2.2.2.2.1 a.2.1.1.2.2.2.2.2.2.1) (R := Bool × List schema_Type × List bind_Pair × Int × Int × Int × List UInt8 × List value_Value) (.m (R := Bool × List schema_Type × List bind_Pair × Int × Int × Int × List UInt8 × List value_Value) .b (.c (.c (.r 3) (.c (.r 1) (.c (.i .i64) (.c (.i .i64) (.c (.i .i64) (.c .s (.c (.r 0) .n))))))) .n) .n (fun z => (z.1, z.2.1.1.1, z.2.1.1.2.1, z.2.1.1.2.2.1, z.2.1.1.2.2.2.1, z.2.1.1.2.2.2.2.1, z.2.1.1.2.2.2.2.2.1, z.2.1.1.2.2.2.2.2.2.1)) (fun r => (r.1, ((r.2.1, r.2.2.1, r.2.2.2.1, r.2.2.2.2.1, r.2.2.2.2.2.1, r.2.2.2.2.2.2.1, r.2.2.2.2.2.2.2, ()), ()), ())) (fun _ => rfl))
def C_judge_Holds : Con tb := .s 14 [true, true, true, true] (.c (.r 4) (.c (.r 3) (.c (.r 1) (.c (.el tb_ok 8) .n)))) (fun N a => s_judge_Holds N a.1 a.2.1 a.2.2.1 a.2.2.2.1) (R := Bool) (.p .b) (fun _ => ⟨rfl, (by kernel_rfl)⟩)
def C_law20_JudgeAhead : Con tb := .s 5 [true, true, true] (.c (.r 4) (.c (.el tb_ok 9) (.c (.i .i64) .n))) (fun N a => s_law20_JudgeAhead N a.1 a.2.1 a.2.2.1) (R := Bool) (.p .b) (fun _ => ⟨rfl, (by kernel_rfl)⟩)
def q_law20_JudgeAhead_0 : LQ tb ((Int × (List pred_Node) × (List schema_Type) × (List (List UInt8)) × (List schema_Type) × (List bind_Pair) × Int × Int × Int × (List UInt8) × (List value_Value) × Int × Int × Int × (List UInt8) × (List value_Value) × (List bind_Pair)) × (Bool × Int)) := (LQ.m [] [2, 4, 7, 8, 9, 10, 11, 12, 13] (.c 2 (.i .i64) (.c 4 (.ptr 0 0) (.c 7 (.r 4) (.c 8 (.r 3) (.c 9 (.ptr 1 0) (.c 10 (.own 0) (.c 11 (.r 6) (.c 12 .b (.c 13 (.i .i64) .n))))))))) (.c (.c (.r 3) (.c (.r 1) (.c (.i .i64) (.c (.i .i64) (.c (.i .i64) (.c .s (.c (.r 0) .n))))))) (.c (.c (.i .i64) (.c (.i .i64) (.c (.i .i64) (.c .s (.c (.r 0) .n))))) .n)) (.l 1 .n)).re (fun a => ((a.1.1, a.1.2.2.1, a.1.2.2.2.1, a.1.2.2.2.2.2.2.1, a.2.1.1.1, a.2.1.1.2.1, a.2.1.1.2.2.1, a.2.1.1.2.2.2.1, a.2.1.1.2.2.2.2.1, a.2.1.1.2.2.2.2.2.1, a.2.1.1.2.2.2.2.2.2.1, a.2.1.2.1.1, a.2.1.2.1.2.1, a.2.1.2.1.2.2.1, a.2.1.2.1.2.2.2.1, a.2.1.2.1.2.2.2.2.1, a.2.2.1), (a.1.2.2.2.2.2.2.2.1, a.1.2.2.2.2.2.2.2.2.1))) (fun x => ((x.1.1, (), x.1.2.1, x.1.2.2.1, (), (), x.1.2.2.2.1, x.2.1, x.2.2, ()), ((x.1.2.2.2.2.1, x.1.2.2.2.2.2.1, x.1.2.2.2.2.2.2.1, x.1.2.2.2.2.2.2.2.1, x.1.2.2.2.2.2.2.2.2.1, x.1.2.2.2.2.2.2.2.2.2.1, x.1.2.2.2.2.2.2.2.2.2.2.1, ()), (x.1.2.2.2.2.2.2.2.2.2.2.2.1, x.1.2.2.2.2.2.2.2.2.2.2.2.2.1, x.1.2.2.2.2.2.2.2.2.2.2.2.2.2.1, x.1.2.2.2.2.2.2.2.2.2.2.2.2.2.2.1, x.1.2.2.2.2.2.2.2.2.2.2.2.2.2.2.2.1, ()), ()), x.1.2.2.2.2.2.2.2.2.2.2.2.2.2.2.2.2, ())) (fun _ => rfl)
def q_law20_JudgeAhead_2 : LQ tb ((Int × (List pred_Node) × (List schema_Type) × Bool × (List schema_Type) × (List bind_Pair) × Int × Int × Int × (List UInt8) × (List value_Value) × Int × Int × Int × (List UInt8) × (List value_Value) × (List bind_Pair)) × (Bool × Int)) := (LQ.m [] [2, 4, 7, 8, 9, 10, 12, 14, 15] (.c 2 (.i .i64) (.c 4 (.ptr 0 0) (.c 7 (.r 4) (.c 8 (.r 3) (.c 9 (.ptr 1 0) (.c 10 (.own 0) (.c 12 .b (.c 14 .b (.c 15 (.i .i64) .n))))))))) (.c (.c (.r 3) (.c (.r 1) (.c (.i .i64) (.c (.i .i64) (.c (.i .i64) (.c .s (.c (.r 0) .n))))))) (.c (.c (.i .i64) (.c (.i .i64) (.c (.i .i64) (.c .s (.c (.r 0) .n))))) .n)) (.l 1 .n)).re (fun a => ((a.1.1, a.1.2.2.1, a.1.2.2.2.1, a.1.2.2.2.2.2.2.1, a.2.1.1.1, a.2.1.1.2.1, a.2.1.1.2.2.1, a.2.1.1.2.2.2.1, a.2.1.1.2.2.2.2.1, a.2.1.1.2.2.2.2.2.1, a.2.1.1.2.2.2.2.2.2.1, a.2.1.2.1.1, a.2.1.2.1.2.1, a.2.1.2.1.2.2.1, a.2.1.2.1.2.2.2.1, a.2.1.2.1.2.2.2.2.1, a.2.2.1), (a.1.2.2.2.2.2.2.2.1, a.1.2.2.2.2.2.2.2.2.1))) (fun x => ((x.1.1, (), x.1.2.1, x.1.2.2.1, (), (), x.1.2.2.2.1, x.2.1, x.2.2, ()), ((x.1.2.2.2.2.1, x.1.2.2.2.2.2.1, x.1.2.2.2.2.2.2.1, x.1.2.2.2.2.2.2.2.1, x.1.2.2.2.2.2.2.2.2.1, x.1.2.2.2.2.2.2.2.2.2.1, x.1.2.2.2.2.2.2.2.2.2.2.1, ()), (x.1.2.2.2.2.2.2.2.2.2.2.2.1, x.1.2.2.2.2.2.2.2.2.2.2.2.2.1, x.1.2.2.2.2.2.2.2.2.2.2.2.2.2.1, x.1.2.2.2.2.2.2.2.2.2.2.2.2.2.2.1, x.1.2.2.2.2.2.2.2.2.2.2.2.2.2.2.2.1, ()), ()), x.1.2.2.2.2.2.2.2.2.2.2.2.2.2.2.2.2, ())) (fun _ => rfl)
def f_law20_JudgeAhead_2 (N : Nat) (c : Int × (List pred_Node) × (List schema_Type) × Bool × (List schema_Type) × (List bind_Pair) × Int × Int × Int × (List UInt8) × (List value_Value) × Int × Int × Int × (List UInt8) × (List value_Value) × (List bind_Pair)) (next : (Bool × Int) → Option Bool) (v : Bool × Int) : Option Bool := s_law20_JudgeAhead_2 N c.1 c.2.1 c.2.2.1 c.2.2.2.1 c.2.2.2.2.2.1 c.2.2.2.2.2.2.2.2.2.2.2.1 c.2.2.2.2.2.2.2.2.2.2.2.2.1 c.2.2.2.2.2.2.2.2.2.2.2.2.2.1 c.2.2.2.2.2.2.2.2.2.2.2.2.2.2.1 c.2.2.2.2.2.2.2.2.2.2.2.2.2.2.2.1 c.2.2.2.2.2.2.2.2.2.2.2.2.2.2.2.2 (fun u0 u1 => next (u0, u1)) v.1 v.2
abbrev r_law20_JudgeAhead_2 (N : Nat) : (Int × (List pred_Node) × (List schema_Type) × Bool × (List schema_Type) × (List bind_Pair) × Int × Int × Int × (List UInt8) × (List value_Value) × Int × Int × Int × (List UInt8) × (List value_Value) × (List bind_Pair)) × (Bool × Int) → Option Bool := fun a => loopV (f_law20_JudgeAhead_2 N a.1) N a.2
def f_law20_JudgeAhead_0 (N : Nat) (c : Int × (List pred_Node) × (List schema_Type) × (List (List UInt8)) × (List schema_Type) × (List bind_Pair) × Int × Int × Int × (List UInt8) × (List value_Value) × Int × Int × Int × (List UInt8) × (List value_Value) × (List bind_Pair)) (next : (Bool × Int) → Option Bool) (v : Bool × Int) : Option Bool := s_law20_JudgeAhead_1 N c.1 c.2.1 c.2.2.1 c.2.2.2.1 c.2.2.2.2.2.1 c.2.2.2.2.2.2.2.2.2.2.2.1 c.2.2.2.2.2.2.2.2.2.2.2.2.1 c.2.2.2.2.2.2.2.2.2.2.2.2.2.1 c.2.2.2.2.2.2.2.2.2.2.2.2.2.2.1 c.2.2.2.2.2.2.2.2.2.2.2.2.2.2.2.1 c.2.2.2.2.2.2.2.2.2.2.2.2.2.2.2.2 (fun u0 u1 => next (u0, u1)) v.1 v.2
abbrev r_law20_JudgeAhead_0 (N : Nat) : (Int × (List pred_Node) × (List schema_Type) × (List (List UInt8)) × (List schema_Type) × (List bind_Pair) × Int × Int × Int × (List UInt8) × (List value_Value) × Int × Int × Int × (List UInt8) × (List value_Value) × (List bind_Pair)) × (Bool × Int) → Option Bool := fun a => loopV (f_law20_JudgeAhead_0 N a.1) N a.2
end
end
end Go.Proofs.YtbanfalnbhcknaaGreatDoor.Y
