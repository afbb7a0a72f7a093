/- The code, and what each function of it is walked to. No premise beyond what each theorem says. -/
import Derived.Test.YtbioikdfpfafaaaGreatDoorWG1
set_option linter.all false
set_option linter.unusedSimpArgs false
set_option linter.unusedVariables false
namespace Go.Proofs.YtbioikdfpfafaaaGreatDoor.W
open Go
section
open Go.Proofs.Tryz
set_option maxRecDepth 1000000
noncomputable section
theorem hm : prog.follows .mixedOrders = true := by kernel_rfl
def eA0 (x : Int) : AV := .v (.int .i64 x)
def eA1 (x : List UInt8) : AV := .v (.string (bs x))
def eA2 (x : schema_Field) : AV := .agg [.v (.string (bs x.Name)), .v (.int .u8 x.Kind)]
def eA3 (x : schema_Type) : AV := .agg [.v (.string (bs x.Name)), .sl 2 (List.map eA2 x.Fields)]
def eA4 (x : pred_Node) : AV := .agg [.v (.int .u8 x.Kind), .v (.int .u8 x.Op), .v (.string (bs x.Var)), .v (.string (bs x.Name)), .v (.int .u8 x.Val.Kind), .v (.int .i64 x.Val.N), .v (.int .u64 x.Val.Bits), .v (.string (bs x.Val.Text))]
def eA5 (x : shape_Node) : AV := .agg [.v (.int .u8 x.Kind), .v (.int .i64 x.Kids), .v (.int .i64 x.Lo), .v (.int .i64 x.Hi), .v (.string (bs x.Var)), .v (.string (bs x.Type_)), .sl 8 (List.map eA4 x.Test)]
def eA6 (x : lex_Token) : AV := .agg [.v (.int .u8 x.Kind), .v (.int .i64 x.At), .v (.string (bs x.Text)), .v (.int .u8 x.Val.Kind), .v (.int .i64 x.Val.N), .v (.int .u64 x.Val.Bits), .v (.string (bs x.Val.Text))]
def eA7 (x : List pred_Node) : AV := .sl 8 (List.map eA4 x)
def eA8 (x : value_Value) : AV := .agg [.v (.int .u8 x.Kind), .v (.int .i64 x.N), .v (.int .u64 x.Bits), .v (.string (bs x.Text))]
def eA9 (x : shape_Pattern) : AV := .agg [.sl 7 (List.map eA5 x.Body), .v (.int .i64 x.Within), .v (.string (bs x.By)), .v (.int .u8 x.Mode)]
def eA10 (x : A40 Bool) : AV := .agg (flm (fun (y1 : Bool) => [.v (.bool y1)]) (A40.l x))
def eA11 (x : Bool) : AV := .v (.bool x)
def eA12 (x : A40 (A40 Bool)) : AV := .agg (flm (fun (y1 : A40 Bool) => flm (fun (y2 : Bool) => [.v (.bool y2)]) (A40.l y1)) (A40.l x))
abbrev T : Nat → Type
  | 0 => Int
  | 1 => List UInt8
  | 2 => schema_Field
  | 3 => schema_Type
  | 4 => pred_Node
  | 5 => shape_Node
  | 6 => lex_Token
  | 7 => List pred_Node
  | 8 => value_Value
  | 9 => shape_Pattern
  | 10 => A40 Bool
  | 11 => Bool
  | 12 => A40 (A40 Bool)
  | _ => Unit
def enc : (i : Nat) → T i → List (BV T)
  | 0 => fun (x : Int) => [.int .i64 x]
  | 1 => fun (x : List UInt8) => [.str x]
  | 2 => fun (x : schema_Field) => [.str x.Name, .int .u8 x.Kind]
  | 3 => fun (x : schema_Type) => [.str x.Name, .sl 2 x.Fields]
  | 4 => fun (x : pred_Node) => [.int .u8 x.Kind, .int .u8 x.Op, .str x.Var, .str x.Name, .int .u8 x.Val.Kind, .int .i64 x.Val.N, .int .u64 x.Val.Bits, .str x.Val.Text]
  | 5 => fun (x : shape_Node) => [.int .u8 x.Kind, .int .i64 x.Kids, .int .i64 x.Lo, .int .i64 x.Hi, .str x.Var, .str x.Type_, .sl 4 x.Test]
  | 6 => fun (x : lex_Token) => [.int .u8 x.Kind, .int .i64 x.At, .str x.Text, .int .u8 x.Val.Kind, .int .i64 x.Val.N, .int .u64 x.Val.Bits, .str x.Val.Text]
  | 7 => fun (x : List pred_Node) => [.sl 4 x]
  | 8 => fun (x : value_Value) => [.int .u8 x.Kind, .int .i64 x.N, .int .u64 x.Bits, .str x.Text]
  | 9 => fun (x : shape_Pattern) => [.sl 5 x.Body, .int .i64 x.Within, .str x.By, .int .u8 x.Mode]
  | 10 => fun (x : A40 Bool) => flm (fun (y1 : Bool) => [.bool y1]) (A40.l x)
  | 11 => fun (x : Bool) => [.bool x]
  | 12 => fun (x : A40 (A40 Bool)) => flm (fun (y1 : A40 Bool) => flm (fun (y2 : Bool) => [.bool y2]) (A40.l y1)) (A40.l x)
  | _ => fun _ => []
def dec0 : List (BV T) → Option Int := P1 (asInt .i64) fun a0 => P0 (a0 : Int)
def dec1 : List (BV T) → Option (List UInt8) := P1 asStr fun a0 => P0 (a0 : List UInt8)
def dec2 : List (BV T) → Option schema_Field := P1 asStr fun a0 => P1 (asInt .u8) fun a1 => P0 (⟨a0, a1⟩ : schema_Field)
def dec3 : List (BV T) → Option schema_Type := P1 asStr fun a0 => P1 (asRow 2) fun a1 => P0 (⟨a0, a1⟩ : schema_Type)
def dec4 : List (BV T) → Option pred_Node := P1 (asInt .u8) fun a0 => P1 (asInt .u8) fun a1 => P1 asStr fun a2 => P1 asStr fun a3 => P1 (asInt .u8) fun a4 => P1 (asInt .i64) fun a5 => P1 (asInt .u64) fun a6 => P1 asStr fun a7 => P0 (⟨a0, a1, a2, a3, ⟨a4, a5, a6, a7⟩⟩ : pred_Node)
def dec5 : List (BV T) → Option shape_Node := P1 (asInt .u8) fun a0 => P1 (asInt .i64) fun a1 => P1 (asInt .i64) fun a2 => P1 (asInt .i64) fun a3 => P1 asStr fun a4 => P1 asStr fun a5 => P1 (asRow 4) fun a6 => P0 (⟨a0, a1, a2, a3, a4, a5, a6⟩ : shape_Node)
def dec6 : List (BV T) → Option lex_Token := P1 (asInt .u8) fun a0 => P1 (asInt .i64) fun a1 => P1 asStr fun a2 => P1 (asInt .u8) fun a3 => P1 (asInt .i64) fun a4 => P1 (asInt .u64) fun a5 => P1 asStr fun a6 => P0 (⟨a0, a1, a2, ⟨a3, a4, a5, a6⟩⟩ : lex_Token)
def dec7 : List (BV T) → Option (List pred_Node) := P1 (asRow 4) fun a0 => P0 (a0 : List pred_Node)
def dec8 : List (BV T) → Option value_Value := P1 (asInt .u8) fun a0 => P1 (asInt .i64) fun a1 => P1 (asInt .u64) fun a2 => P1 asStr fun a3 => P0 (⟨a0, a1, a2, a3⟩ : value_Value)
def dec9 : List (BV T) → Option shape_Pattern := P1 (asRow 5) fun a0 => P1 (asInt .i64) fun a1 => P1 asStr fun a2 => P1 (asInt .u8) fun a3 => P0 (⟨a0, a1, a2, a3⟩ : shape_Pattern)
def dec10 : List (BV T) → Option (A40 Bool) := fun cs => (decN 1 (P1 asBool fun a0 => P0 (a0 : Bool)) 40 cs).bind A40.of
def dec11 : List (BV T) → Option Bool := P1 asBool fun a0 => P0 (a0 : Bool)
def dec12 : List (BV T) → Option (A40 (A40 Bool)) := fun cs => (decN 40 dec10 40 cs).bind A40.of
def dec : (i : Nat) → List (BV T) → Option (T i)
  | 0 => dec0
  | 1 => dec1
  | 2 => dec2
  | 3 => dec3
  | 4 => dec4
  | 5 => dec5
  | 6 => dec6
  | 7 => dec7
  | 8 => dec8
  | 9 => dec9
  | 10 => dec10
  | 11 => dec11
  | 12 => dec12
  | _ => fun _ => none
def eA : (i : Nat) → T i → AV
  | 0 => eA0
  | 1 => eA1
  | 2 => eA2
  | 3 => eA3
  | 4 => eA4
  | 5 => eA5
  | 6 => eA6
  | 7 => eA7
  | 8 => eA8
  | 9 => eA9
  | 10 => eA10
  | 11 => eA11
  | 12 => eA12
  | _ => fun _ => .agg []
def tb : Tb T := {k := fun i => [1, 1, 2, 2, 8, 7, 7, 1, 4, 4, 40, 1, 1600].getD i 0, ag := fun i => [false, false, true, true, true, true, true, false, true, true, true, false, true].getD i true, eA, enc, dec}
def sbf (k : Nat) : Option (List UInt8 → (i : Nat) × List (T i)) := none
theorem sb_ok (k : Nat) (f : List UInt8 → (i : Nat) × List (T i)) (s : List UInt8) (h : sbf k = some f) : k = 1 ∧ tb.k (f s).1 = 1 ∧ (f s).2.map (tb.eA (f s).1) = s.map byteV := by cases h
def bof (i : Nat) (_ : List (T i)) : Option (List UInt8) := none
theorem bo_ok (i : Nat) (l : List (T i)) (s : List UInt8) (h : bof i l = some s) : tb.k i = 1 ∧ ∃ m : List Int, l.map (tb.eA i) = m.map u8V ∧ s = byS m := by cases h
theorem dec0_ok (cs : List (BV T)) (x : Int) (h : dec0 cs = some x) : LWs (BV.avs tb cs) (eA0 x).cells := by
  obtain ⟨c0, r0, a0, rfl, h0, h⟩ := P1_some h
  obtain ⟨rfl, rfl⟩ := P0_some h
  exact .cons (asInt_lw h0) (.nil)
theorem dec1_ok (cs : List (BV T)) (x : List UInt8) (h : dec1 cs = some x) : LWs (BV.avs tb cs) (eA1 x).cells := by
  obtain ⟨c0, r0, a0, rfl, h0, h⟩ := P1_some h
  obtain ⟨rfl, rfl⟩ := P0_some h
  exact .cons (asStr_lw h0) (.nil)
theorem dec2_ok (cs : List (BV T)) (x : schema_Field) (h : dec2 cs = some x) : LWs (BV.avs tb cs) (eA2 x).cells := by
  obtain ⟨c0, r0, a0, rfl, h0, h⟩ := P1_some h
  obtain ⟨c1, r1, a1, rfl, h1, h⟩ := P1_some h
  obtain ⟨rfl, rfl⟩ := P0_some h
  exact .cons (asStr_lw h0) (.cons (asInt_lw h1) (.nil))
theorem dec3_ok (cs : List (BV T)) (x : schema_Type) (h : dec3 cs = some x) : LWs (BV.avs tb cs) (eA3 x).cells := by
  obtain ⟨c0, r0, a0, rfl, h0, h⟩ := P1_some h
  obtain ⟨c1, r1, a1, rfl, h1, h⟩ := P1_some h
  obtain ⟨rfl, rfl⟩ := P0_some h
  exact .cons (asStr_lw h0) (.cons (asRow_ok h1) (.nil))
theorem dec4_ok (cs : List (BV T)) (x : pred_Node) (h : dec4 cs = some x) : LWs (BV.avs tb cs) (eA4 x).cells := by
  obtain ⟨c0, r0, a0, rfl, h0, h⟩ := P1_some h
  obtain ⟨c1, r1, a1, rfl, h1, h⟩ := P1_some h
  obtain ⟨c2, r2, a2, rfl, h2, h⟩ := P1_some h
  obtain ⟨c3, r3, a3, rfl, h3, h⟩ := P1_some h
  obtain ⟨c4, r4, a4, rfl, h4, h⟩ := P1_some h
  obtain ⟨c5, r5, a5, rfl, h5, h⟩ := P1_some h
  obtain ⟨c6, r6, a6, rfl, h6, h⟩ := P1_some h
  obtain ⟨c7, r7, a7, rfl, h7, h⟩ := P1_some h
  obtain ⟨rfl, rfl⟩ := P0_some h
  exact .cons (asInt_lw h0) (.cons (asInt_lw h1) (.cons (asStr_lw h2) (.cons (asStr_lw h3) (.cons (asInt_lw h4) (.cons (asInt_lw h5) (.cons (asInt_lw h6) (.cons (asStr_lw h7) (.nil))))))))
theorem dec5_ok (cs : List (BV T)) (x : shape_Node) (h : dec5 cs = some x) : LWs (BV.avs tb cs) (eA5 x).cells := by
  obtain ⟨c0, r0, a0, rfl, h0, h⟩ := P1_some h
  obtain ⟨c1, r1, a1, rfl, h1, h⟩ := P1_some h
  obtain ⟨c2, r2, a2, rfl, h2, h⟩ := P1_some h
  obtain ⟨c3, r3, a3, rfl, h3, h⟩ := P1_some h
  obtain ⟨c4, r4, a4, rfl, h4, h⟩ := P1_some h
  obtain ⟨c5, r5, a5, rfl, h5, h⟩ := P1_some h
  obtain ⟨c6, r6, a6, rfl, h6, h⟩ := P1_some h
  obtain ⟨rfl, rfl⟩ := P0_some h
  exact .cons (asInt_lw h0) (.cons (asInt_lw h1) (.cons (asInt_lw h2) (.cons (asInt_lw h3) (.cons (asStr_lw h4) (.cons (asStr_lw h5) (.cons (asRow_ok h6) (.nil)))))))
theorem dec6_ok (cs : List (BV T)) (x : lex_Token) (h : dec6 cs = some x) : LWs (BV.avs tb cs) (eA6 x).cells := by
  obtain ⟨c0, r0, a0, rfl, h0, h⟩ := P1_some h
  obtain ⟨c1, r1, a1, rfl, h1, h⟩ := P1_some h
  obtain ⟨c2, r2, a2, rfl, h2, h⟩ := P1_some h
  obtain ⟨c3, r3, a3, rfl, h3, h⟩ := P1_some h
  obtain ⟨c4, r4, a4, rfl, h4, h⟩ := P1_some h
  obtain ⟨c5, r5, a5, rfl, h5, h⟩ := P1_some h
  obtain ⟨c6, r6, a6, rfl, h6, h⟩ := P1_some h
  obtain ⟨rfl, rfl⟩ := P0_some h
  exact .cons (asInt_lw h0) (.cons (asInt_lw h1) (.cons (asStr_lw h2) (.cons (asInt_lw h3) (.cons (asInt_lw h4) (.cons (asInt_lw h5) (.cons (asStr_lw h6) (.nil)))))))
theorem dec7_ok (cs : List (BV T)) (x : List pred_Node) (h : dec7 cs = some x) : LWs (BV.avs tb cs) (eA7 x).cells := by
  obtain ⟨c0, r0, a0, rfl, h0, h⟩ := P1_some h
  obtain ⟨rfl, rfl⟩ := P0_some h
  exact .cons (asRow_ok h0) (.nil)
theorem dec8_ok (cs : List (BV T)) (x : value_Value) (h : dec8 cs = some x) : LWs (BV.avs tb cs) (eA8 x).cells := by
  obtain ⟨c0, r0, a0, rfl, h0, h⟩ := P1_some h
  obtain ⟨c1, r1, a1, rfl, h1, h⟩ := P1_some h
  obtain ⟨c2, r2, a2, rfl, h2, h⟩ := P1_some h
  obtain ⟨c3, r3, a3, rfl, h3, h⟩ := P1_some h
  obtain ⟨rfl, rfl⟩ := P0_some h
  exact .cons (asInt_lw h0) (.cons (asInt_lw h1) (.cons (asInt_lw h2) (.cons (asStr_lw h3) (.nil))))
theorem dec9_ok (cs : List (BV T)) (x : shape_Pattern) (h : dec9 cs = some x) : LWs (BV.avs tb cs) (eA9 x).cells := by
  obtain ⟨c0, r0, a0, rfl, h0, h⟩ := P1_some h
  obtain ⟨c1, r1, a1, rfl, h1, h⟩ := P1_some h
  obtain ⟨c2, r2, a2, rfl, h2, h⟩ := P1_some h
  obtain ⟨c3, r3, a3, rfl, h3, h⟩ := P1_some h
  obtain ⟨rfl, rfl⟩ := P0_some h
  exact .cons (asRow_ok h0) (.cons (asInt_lw h1) (.cons (asStr_lw h2) (.cons (asInt_lw h3) (.nil))))
theorem dec10_ok (cs : List (BV T)) (x : A40 Bool) (h : dec10 cs = some x) : LWs (BV.avs tb cs) (eA10 x).cells := by
  unfold dec10 at h
  obtain ⟨l, h1, h2⟩ := Option.bind_eq_some_iff.1 h
  have h3 := A40.of_l h2
  have h4 := decN_ok (B := tb) (f := fun (y1 : Bool) => [.v (.bool y1)]) (fun cs a h => by
      obtain ⟨c0, r0, a0, rfl, h0, h⟩ := P1_some h
      obtain ⟨rfl, rfl⟩ := P0_some h
      exact .cons (asBool_lw h0) (.nil)) h1
  rw [← h3] at h4
  exact h4
theorem dec11_ok (cs : List (BV T)) (x : Bool) (h : dec11 cs = some x) : LWs (BV.avs tb cs) (eA11 x).cells := by
  obtain ⟨c0, r0, a0, rfl, h0, h⟩ := P1_some h
  obtain ⟨rfl, rfl⟩ := P0_some h
  exact .cons (asBool_lw h0) (.nil)
theorem dec12_ok (cs : List (BV T)) (x : A40 (A40 Bool)) (h : dec12 cs = some x) : LWs (BV.avs tb cs) (eA12 x).cells := by
  unfold dec12 at h
  obtain ⟨l, h1, h2⟩ := Option.bind_eq_some_iff.1 h
  have h3 := A40.of_l h2
  have h4 := decN_ok (B := tb) (f := fun (y1 : A40 Bool) => flm (fun (y2 : Bool) => [.v (.bool y2)]) (A40.l y1)) (fun cs a h => dec10_ok cs a h) h1
  rw [← h3] at h4
  exact h4
theorem tb_ok : tb.Ok where
  enc := fun i x => match i with | 0 => (by kernel_rfl) | 1 => (by kernel_rfl) | 2 => (by kernel_rfl) | 3 => (by kernel_rfl) | 4 => (by kernel_rfl) | 5 => (by kernel_rfl) | 6 => (by kernel_rfl) | 7 => (by kernel_rfl) | 8 => (by kernel_rfl) | 9 => (by kernel_rfl) | 10 => (by kernel_rfl) | 11 => (by kernel_rfl) | 12 => (by kernel_rfl) | n + 13 => (by kernel_rfl)
  len := fun i x => match i with | 0 => (by kernel_rfl) | 1 => (by kernel_rfl) | 2 => (by kernel_rfl) | 3 => (by kernel_rfl) | 4 => (by kernel_rfl) | 5 => (by kernel_rfl) | 6 => (by kernel_rfl) | 7 => (by kernel_rfl) | 8 => (by kernel_rfl) | 9 => (by kernel_rfl) | 10 => (by kernel_rfl) | 11 => (by kernel_rfl) | 12 => (by kernel_rfl) | n + 13 => (by kernel_rfl)
  one := fun i x => match i with | 0 => (by kernel_rfl) | 1 => (by kernel_rfl) | 2 => (by kernel_rfl) | 3 => (by kernel_rfl) | 4 => (by kernel_rfl) | 5 => (by kernel_rfl) | 6 => (by kernel_rfl) | 7 => (by kernel_rfl) | 8 => (by kernel_rfl) | 9 => (by kernel_rfl) | 10 => (by kernel_rfl) | 11 => (by kernel_rfl) | 12 => (by kernel_rfl) | n + 13 => (by kernel_rfl)
  dat := fun i x => match i with | 0 => (by kernel_rfl) | 1 => (by kernel_rfl) | 2 => (by kernel_rfl) | 3 => (by kernel_rfl) | 4 => (by kernel_rfl) | 5 => (by kernel_rfl) | 6 => (by kernel_rfl) | 7 => (by kernel_rfl) | 8 => (by kernel_rfl) | 9 => (by kernel_rfl) | 10 => (by kernel_rfl) | 11 => (by kernel_rfl) | 12 => (by kernel_rfl) | n + 13 => (by kernel_rfl)
  sg := fun i x h => match i with | 0 => (by kernel_rfl) | 1 => (by kernel_rfl) | 2 => (by cases h) | 3 => (by cases h) | 4 => (by cases h) | 5 => (by cases h) | 6 => (by cases h) | 7 => (by kernel_rfl) | 8 => (by cases h) | 9 => (by cases h) | 10 => (by cases h) | 11 => (by kernel_rfl) | 12 => (by cases h) | n + 13 => (by cases h)
  ag := fun i x h => match i with | 0 => (by cases h) | 1 => (by cases h) | 2 => (by kernel_rfl) | 3 => (by kernel_rfl) | 4 => (by kernel_rfl) | 5 => (by kernel_rfl) | 6 => (by kernel_rfl) | 7 => (by cases h) | 8 => (by kernel_rfl) | 9 => (by kernel_rfl) | 10 => (by kernel_rfl) | 11 => (by cases h) | 12 => (by kernel_rfl) | n + 13 => (by kernel_rfl)
  dec := fun i => match i with | 0 => dec0_ok | 1 => dec1_ok | 2 => dec2_ok | 3 => dec3_ok | 4 => dec4_ok | 5 => dec5_ok | 6 => dec6_ok | 7 => dec7_ok | 8 => dec8_ok | 9 => dec9_ok | 10 => dec10_ok | 11 => dec11_ok | 12 => dec12_ok | n + 13 => fun cs x h => (by cases h)
  el := fun i x R K r h => by cases h
  fd := fun i ty v x h => by cases h
def C_law04_Small : Con tb := .s 43 [true] (.c (.el tb_ok 8) .n) (fun N a => s_law04_Small N a.1) (R := Int) (.p (.i .i64)) (fun _ => ⟨rfl, (by kernel_rfl)⟩)
def C_law11_Over : Con tb := .s 20 [true] (.c (.r 4) .n) (fun N a => s_law11_Over N a.1) (R := Int) (.p (.i .i64)) (fun _ => ⟨rfl, (by kernel_rfl)⟩)
def q_law11_Over_0 : LQ tb (((List pred_Node)) × (Int)) := (LQ.m [] [0, 3] (.c 0 (.r 4) (.c 3 (.i .i64) .n)) .n .n).re (fun a => (a.1.1, a.1.2.1)) (fun x => ((x.1, x.2, ()), (), ())) (fun _ => rfl)
def f_law11_Over_0 (N : Nat) (c : (List pred_Node)) (next : Int → Option Int) (v : Int) : Option Int := s_law11_Over_1 N c (fun u0 => next u0) v
abbrev r_law11_Over_0 (N : Nat) : ((List pred_Node)) × (Int) → Option Int := fun a => loopV (f_law11_Over_0 N a.1) N a.2
def C_law13_Over : Con tb := .s 7 [true] (.c (.el tb_ok 9) .n) (fun N a => s_law13_Over N a.1) (R := Int) (.p (.i .i64)) (fun _ => ⟨rfl, (by kernel_rfl)⟩)
def q_law13_Over_0 : LQ tb (((List shape_Node) × Int × (List UInt8) × Int) × (Int)) := (LQ.m [] [1, 3] (.c 1 (.ptr 0 0) (.c 3 (.i .i64) .n)) (.c (.c (.r 5) (.c (.i .i64) (.c .s (.c (.i .u8) .n)))) .n) .n).re (fun a => ((a.2.1.1.1, a.2.1.1.2.1, a.2.1.1.2.2.1, a.2.1.1.2.2.2.1), a.1.2.1)) (fun x => (((), x.2, ()), ((x.1.1, x.1.2.1, x.1.2.2.1, x.1.2.2.2, ()), ()), ())) (fun _ => rfl)
def f_law13_Over_0 (N : Nat) (c : (List shape_Node) × Int × (List UInt8) × Int) (next : Int → Option Int) (v : Int) : Option Int := s_law13_Over_1 N c.1 (fun u0 => next u0) v
abbrev r_law13_Over_0 (N : Nat) : ((List shape_Node) × Int × (List UInt8) × Int) × (Int) → Option Int := fun a => loopV (f_law13_Over_0 N a.1) N a.2
def C_slices_Clone_schema_Field : Con tb := .clone 100 2 (fun _ s => shClone 24 s)
def C_slices_Clone_schema_Field_D : Con tb := .cloneD 100 2 (fun _ s => shClone 24 s)
def C_pred_Node_more : Con tb := .s 186 [true] (.c (.el tb_ok 4) .n) (fun N a => s_pred_Node_more N a.1) (R := Bool) (.p .b) (fun _ => ⟨rfl, (by kernel_rfl)⟩)
def C_predtext_parser_next_v424 : Con tb := .m 211 [false] (.c (.ptr 0 0) .n) (.c (.c (.r 6) (.c (.i .i64) (.c (.i .i64) .n))) .n) .n (fun N a => s_predtext_parser_next_v424 N a.2.1.1.1 a.2.1.1.2.1 a.2.1.1.2.2.1) (R := lex_Token × List lex_Token × Int × Int) (.m (R := lex_Token × List lex_Token × Int × Int) (.el tb_ok 6) (.c (.c (.r 6) (.c (.i .i64) (.c (.i .i64) .n))) .n) .n (fun z => (z.1, z.2.1.1.1, z.2.1.1.2.1, z.2.1.1.2.2.1)) (fun r => (r.1, ((r.2.1, r.2.2.1, r.2.2.2, ()), ()), ())) (fun _ => rfl))
def C_predtext_parser_place_v424 : Con tb := .m 201 [false] (.c (.ptr 0 0) .n) (.c (.c (.r 6) (.c (.i .i64) (.c (.i .i64) .n))) .n) .n (fun N a => s_predtext_parser_place_v424 N a.2.1.1.1 a.2.1.1.2.1 a.2.1.1.2.2.1) (R := Int × List lex_Token × Int × Int) (.m (R := Int × List lex_Token × Int × Int) (.i .i64) (.c (.c (.r 6) (.c (.i .i64) (.c (.i .i64) .n))) .n) .n (fun z => (z.1, z.2.1.1.1, z.2.1.1.2.1, z.2.1.1.2.2.1)) (fun r => (r.1, ((r.2.1, r.2.2.1, r.2.2.2, ()), ()), ())) (fun _ => rfl))
def C_predtext_parser_fail_v927 : Con tb := .m 216 [false, true] (.c (.ptr 0 0) (.c (.i .i64) .n)) (.c (.c (.r 6) (.c (.i .i64) (.c (.i .i64) .n))) .n) .n (fun N a => s_predtext_parser_fail_v927 N a.1.2.1 a.2.1.1.1 a.2.1.1.2.1 a.2.1.1.2.2.1) (R := Int × Int × List lex_Token × Int × Int) (.m (R := Int × Int × List lex_Token × Int × Int) (.ifc 16777480 (.ag (.c (.i .i64) (.c (.i .i64) .n)))) (.c (.c (.r 6) (.c (.i .i64) (.c (.i .i64) .n))) .n) .n (fun z => (z.1.1, z.1.2.1, z.2.1.1.1, z.2.1.1.2.1, z.2.1.1.2.2.1)) (fun r => ((r.1, r.2.1, ()), ((r.2.2.1, r.2.2.2.1, r.2.2.2.2, ()), ()), ())) (fun _ => rfl))
def C_predtext_parser_deeper_v927 : Con tb := .m 215 [false, true] (.c (.ptr 0 0) (.c (.i .i64) .n)) (.c (.c (.r 6) (.c (.i .i64) (.c (.i .i64) .n))) .n) .n (fun N a => s_predtext_parser_deeper_v927 N a.1.2.1 a.2.1.1.1 a.2.1.1.2.1 a.2.1.1.2.2.1) (R := (Int × Int × List lex_Token × Int × Int) ⊕ (List lex_Token × Int × Int)) (.or (.m (R := Int × Int × List lex_Token × Int × Int) (.ifc 16777480 (.ag (.c (.i .i64) (.c (.i .i64) .n)))) (.c (.c (.r 6) (.c (.i .i64) (.c (.i .i64) .n))) .n) .n (fun z => (z.1.1, z.1.2.1, z.2.1.1.1, z.2.1.1.2.1, z.2.1.1.2.2.1)) (fun r => ((r.1, r.2.1, ()), ((r.2.2.1, r.2.2.2.1, r.2.2.2.2, ()), ()), ())) (fun _ => rfl)) (.m (R := List lex_Token × Int × Int) (.tu .n) (.c (.c (.r 6) (.c (.i .i64) (.c (.i .i64) .n))) .n) .n (fun z => (z.2.1.1.1, z.2.1.1.2.1, z.2.1.1.2.2.1)) (fun r => ((), ((r.1, r.2.1, r.2.2, ()), ()), ())) (fun _ => rfl)))
def C_predtext_parser_eat_v368 : Con tb := .m 207 [false, true, true] (.c (.ptr 0 0) (.c (.i .u8) (.c .s .n))) (.c (.c (.r 6) (.c (.i .i64) (.c (.i .i64) .n))) .n) .n (fun N a => s_predtext_parser_eat_v368 N a.1.2.1 a.1.2.2.1 a.2.1.1.1 a.2.1.1.2.1 a.2.1.1.2.2.1) (R := Bool × List lex_Token × Int × Int) (.m (R := Bool × List lex_Token × Int × Int) .b (.c (.c (.r 6) (.c (.i .i64) (.c (.i .i64) .n))) .n) .n (fun z => (z.1, z.2.1.1.1, z.2.1.1.2.1, z.2.1.1.2.2.1)) (fun r => (r.1, ((r.2.1, r.2.2.1, r.2.2.2, ()), ()), ())) (fun _ => rfl))
def C_slices_Grow_pred_Node_own : Con tb := .m 220 [false, true] (.c .e (.c (.i .i64) .n)) .n .n (fun N a => s_slices_Grow_pred_Node_own N a.1.2.1) (R := List pred_Node) (.m (R := List pred_Node) (.own 0) .n (.l 4 .n) (fun z => z.2.2.1) (fun r => ((), (), r, ())) (fun _ => rfl))
def C_slices_Concat_pred_Node : Con tb := .p 212 [true] (.c (.r 7) .n) (fun N a => s_slices_Concat_pred_Node N a.1) (R := (List UInt8) ⊕ (List pred_Node)) (.or (.p (.ifc 16777225 .s)) (.p (.r 4))) (fun r => by rcases r with _ | _ <;> exact rfl)
def q_slices_Concat_pred_Node_0 : LQ tb (((List (List pred_Node)) × (List (List pred_Node)) × Int) × (Int × Int)) := (LQ.m [] [0, 3, 9, 10, 11] (.c 0 (.r 7) (.c 3 (.i .i64) (.c 9 (.r 7) (.c 10 (.i .i64) (.c 11 (.i .i64) .n))))) .n .n).re (fun a => ((a.1.1, a.1.2.2.1, a.1.2.2.2.1), (a.1.2.1, a.1.2.2.2.2.1))) (fun x => ((x.1.1, x.2.1, x.1.2.1, x.1.2.2, x.2.2, ()), (), ())) (fun _ => rfl)
def q_slices_Concat_pred_Node_2 : LQ tb (((List (List pred_Node)) × Int) × (Int × (List pred_Node))) := (LQ.m [] [6, 25, 26, 27] (.c 6 (.own 0) (.c 25 (.r 7) (.c 26 (.i .i64) (.c 27 (.i .i64) .n)))) .n (.l 4 .n)).re (fun a => ((a.1.2.1, a.1.2.2.1), (a.1.2.2.2.1, a.2.2.1))) (fun x => (((), x.1.1, x.1.2, x.2.1, ()), (), x.2.2, ())) (fun _ => rfl)
def f_slices_Concat_pred_Node_2 (N : Nat) (c : (List (List pred_Node)) × Int) (next : (Int × (List pred_Node)) → Option ((List UInt8) ⊕ (List pred_Node))) (v : Int × (List pred_Node)) : Option ((List UInt8) ⊕ (List pred_Node)) := s_slices_Concat_pred_Node_2 N c.1 c.2 (fun u0 u1 => next (u0, u1)) v.1 v.2
abbrev r_slices_Concat_pred_Node_2 (N : Nat) : ((List (List pred_Node)) × Int) × (Int × (List pred_Node)) → Option ((List UInt8) ⊕ (List pred_Node)) := fun a => loopV (f_slices_Concat_pred_Node_2 N a.1) N a.2
def f_slices_Concat_pred_Node_0 (N : Nat) (c : (List (List pred_Node)) × (List (List pred_Node)) × Int) (next : (Int × Int) → Option ((List UInt8) ⊕ (List pred_Node))) (v : Int × Int) : Option ((List UInt8) ⊕ (List pred_Node)) := s_slices_Concat_pred_Node_1 N c.1 c.2.1 c.2.2 (fun u0 u1 => next (u0, u1)) v.1 v.2
abbrev r_slices_Concat_pred_Node_0 (N : Nat) : ((List (List pred_Node)) × (List (List pred_Node)) × Int) × (Int × Int) → Option ((List UInt8) ⊕ (List pred_Node)) := fun a => loopV (f_slices_Concat_pred_Node_0 N a.1) N a.2
def C_predtext_above : Con tb := .p 208 [true, true] (.c (.el tb_ok 4) (.c (.r 7) .n)) (fun N a => s_predtext_above N a.1 a.2.1) (R := List pred_Node) (.p (.r 4)) (fun _ => rfl)
def C_predtext_parser_take_v128 : Con tb := .m 219 [false, true] (.c (.ptr 0 0) (.c (.i .u8) .n)) (.c (.c (.r 6) (.c (.i .i64) (.c (.i .i64) .n))) .n) .n (fun N a => s_predtext_parser_take_v128 N a.1.2.1 a.2.1.1.1 a.2.1.1.2.1 a.2.1.1.2.2.1) (R := (Int × Int × List lex_Token × Int × Int) ⊕ (lex_Token × List lex_Token × Int × Int)) (.or (.m (R := Int × Int × List lex_Token × Int × Int) (.ifc 16777480 (.ag (.c (.i .i64) (.c (.i .i64) .n)))) (.c (.c (.r 6) (.c (.i .i64) (.c (.i .i64) .n))) .n) .n (fun z => (z.1.1, z.1.2.1, z.2.1.1.1, z.2.1.1.2.1, z.2.1.1.2.2.1)) (fun r => ((r.1, r.2.1, ()), ((r.2.2.1, r.2.2.2.1, r.2.2.2.2, ()), ()), ())) (fun _ => rfl)) (.m (R := lex_Token × List lex_Token × Int × Int) (.el tb_ok 6) (.c (.c (.r 6) (.c (.i .i64) (.c (.i .i64) .n))) .n) .n (fun z => (z.1, z.2.1.1.1, z.2.1.1.2.1, z.2.1.1.2.2.1)) (fun r => (r.1, ((r.2.1, r.2.2.1, r.2.2.2, ()), ()), ())) (fun _ => rfl)))
def C_predtext_parser_unit_v424 : Con tb := .m 221 [false] (.c (.ptr 0 0) .n) (.c (.c (.r 6) (.c (.i .i64) (.c (.i .i64) .n))) .n) .n (fun N a => s_predtext_parser_unit_v424 N a.2.1.1.1 a.2.1.1.2.1 a.2.1.1.2.2.1) (R := (Int × Int × List lex_Token × Int × Int) ⊕ (List pred_Node × List lex_Token × Int × Int)) (.or (.m (R := Int × Int × List lex_Token × Int × Int) (.ifc 16777480 (.ag (.c (.i .i64) (.c (.i .i64) .n)))) (.c (.c (.r 6) (.c (.i .i64) (.c (.i .i64) .n))) .n) .n (fun z => (z.1.1, z.1.2.1, z.2.1.1.1, z.2.1.1.2.1, z.2.1.1.2.2.1)) (fun r => ((r.1, r.2.1, ()), ((r.2.2.1, r.2.2.2.1, r.2.2.2.2, ()), ()), ())) (fun _ => rfl)) (.m (R := List pred_Node × List lex_Token × Int × Int) (.r 4) (.c (.c (.r 6) (.c (.i .i64) (.c (.i .i64) .n))) .n) .n (fun z => (z.1, z.2.1.1.1, z.2.1.1.2.1, z.2.1.1.2.2.1)) (fun r => (r.1, ((r.2.1, r.2.2.1, r.2.2.2, ()), ()), ())) (fun _ => rfl)))
def C_predtext_parser_sum_v424 : Con tb := .m 217 [false] (.c (.ptr 0 0) .n) (.c (.c (.r 6) (.c (.i .i64) (.c (.i .i64) .n))) .n) .n (fun N a => s_predtext_parser_sum_v424 N a.2.1.1.1 a.2.1.1.2.1 a.2.1.1.2.2.1) (R := (Int × Int × List lex_Token × Int × Int) ⊕ (List pred_Node × List lex_Token × Int × Int)) (.or (.m (R := Int × Int × List lex_Token × Int × Int) (.ifc 16777480 (.ag (.c (.i .i64) (.c (.i .i64) .n)))) (.c (.c (.r 6) (.c (.i .i64) (.c (.i .i64) .n))) .n) .n (fun z => (z.1.1, z.1.2.1, z.2.1.1.1, z.2.1.1.2.1, z.2.1.1.2.2.1)) (fun r => ((r.1, r.2.1, ()), ((r.2.2.1, r.2.2.2.1, r.2.2.2.2, ()), ()), ())) (fun _ => rfl)) (.m (R := List pred_Node × List lex_Token × Int × Int) (.r 4) (.c (.c (.r 6) (.c (.i .i64) (.c (.i .i64) .n))) .n) .n (fun z => (z.1, z.2.1.1.1, z.2.1.1.2.1, z.2.1.1.2.2.1)) (fun r => (r.1, ((r.2.1, r.2.2.1, r.2.2.2, ()), ()), ())) (fun _ => rfl)))
def q_predtext_parser_sum_v424_0 : LQ tb ((Unit) × ((List pred_Node) × (List lex_Token) × Int × Int)) := (LQ.m [] [0, 3] (.c 0 (.ptr 0 0) (.c 3 (.r 4) .n)) (.c (.c (.r 6) (.c (.i .i64) (.c (.i .i64) .n))) .n) .n).re (fun a => ((), (a.1.2.1, a.2.1.1.1, a.2.1.1.2.1, a.2.1.1.2.2.1))) (fun x => (((), x.2.1, ()), ((x.2.2.1, x.2.2.2.1, x.2.2.2.2, ()), ()), ())) (fun _ => rfl)
def f_predtext_parser_sum_v424_0 (N : Nat) (c : Unit) (next : ((List pred_Node) × (List lex_Token) × Int × Int) → Option ((Int × Int × List lex_Token × Int × Int) ⊕ (List pred_Node × List lex_Token × Int × Int))) (v : (List pred_Node) × (List lex_Token) × Int × Int) : Option ((Int × Int × List lex_Token × Int × Int) ⊕ (List pred_Node × List lex_Token × Int × Int)) := s_predtext_parser_sum_v424_1 N (fun u0 u1 u2 u3 => next (u0, u1, u2, u3)) v.1 v.2.1 v.2.2.1 v.2.2.2
abbrev r_predtext_parser_sum_v424_0 (N : Nat) : (Unit) × ((List pred_Node) × (List lex_Token) × Int × Int) → Option ((Int × Int × List lex_Token × Int × Int) ⊕ (List pred_Node × List lex_Token × Int × Int)) := fun a => loopV (f_predtext_parser_sum_v424_0 N a.1) N a.2
def C_compare_Sign : Con tb := .s 198 [true] (.c (.i .u8) .n) (fun N a => s_compare_Sign N a.1) (R := List UInt8) (.p .s) (fun _ => ⟨rfl, (by kernel_rfl)⟩)
def C_compare_Op : Con tb := .s 218 [true] (.c .s .n) (fun N a => s_compare_Op N a.1) (R := Int) (.p (.i .u8)) (fun _ => ⟨rfl, (by kernel_rfl)⟩)
def q_compare_Op_0 : LQ tb (((List UInt8)) × (Int)) := (LQ.m [] [0, 3] (.c 0 .s (.c 3 (.i .u8) .n)) .n .n).re (fun a => (a.1.1, a.1.2.1)) (fun x => ((x.1, x.2, ()), (), ())) (fun _ => rfl)
def f_compare_Op_0 (N : Nat) (c : (List UInt8)) (next : Int → Option Int) (v : Int) : Option Int := s_compare_Op_1 N c (fun u0 => next u0) v
abbrev r_compare_Op_0 (N : Nat) : ((List UInt8)) × (Int) → Option Int := fun a => loopV (f_compare_Op_0 N a.1) N a.2
def C_predtext_parser_or_v927 : Con tb := .m 203 [false, true] (.c (.ptr 0 0) (.c (.i .i64) .n)) (.c (.c (.r 6) (.c (.i .i64) (.c (.i .i64) .n))) .n) .n (fun N a => s_predtext_parser_or_v927 N a.1.2.1 a.2.1.1.1 a.2.1.1.2.1 a.2.1.1.2.2.1) (R := (Int × Int × List lex_Token × Int × Int) ⊕ (List pred_Node × List lex_Token × Int × Int)) (.or (.m (R := Int × Int × List lex_Token × Int × Int) (.ifc 16777480 (.ag (.c (.i .i64) (.c (.i .i64) .n)))) (.c (.c (.r 6) (.c (.i .i64) (.c (.i .i64) .n))) .n) .n (fun z => (z.1.1, z.1.2.1, z.2.1.1.1, z.2.1.1.2.1, z.2.1.1.2.2.1)) (fun r => ((r.1, r.2.1, ()), ((r.2.2.1, r.2.2.2.1, r.2.2.2.2, ()), ()), ())) (fun _ => rfl)) (.m (R := List pred_Node × List lex_Token × Int × Int) (.r 4) (.c (.c (.r 6) (.c (.i .i64) (.c (.i .i64) .n))) .n) .n (fun z => (z.1, z.2.1.1.1, z.2.1.1.2.1, z.2.1.1.2.2.1)) (fun r => (r.1, ((r.2.1, r.2.2.1, r.2.2.2, ()), ()), ())) (fun _ => rfl)))
def q_predtext_parser_or_v927_0 : LQ tb ((Int) × ((List pred_Node) × (List lex_Token) × Int × Int)) := (LQ.m [] [0, 1, 5] (.c 0 (.ptr 0 0) (.c 1 (.i .i64) (.c 5 (.r 4) .n))) (.c (.c (.r 6) (.c (.i .i64) (.c (.i .i64) .n))) .n) .n).re (fun a => (a.1.2.1, (a.1.2.2.1, a.2.1.1.1, a.2.1.1.2.1, a.2.1.1.2.2.1))) (fun x => (((), x.1, x.2.1, ()), ((x.2.2.1, x.2.2.2.1, x.2.2.2.2, ()), ()), ())) (fun _ => rfl)
def f_predtext_parser_or_v927_0 (N : Nat) (c : Int) (next : ((List pred_Node) × (List lex_Token) × Int × Int) → Option ((Int × Int × List lex_Token × Int × Int) ⊕ (List pred_Node × List lex_Token × Int × Int))) (v : (List pred_Node) × (List lex_Token) × Int × Int) : Option ((Int × Int × List lex_Token × Int × Int) ⊕ (List pred_Node × List lex_Token × Int × Int)) := s_predtext_parser_or_v927_1 N (SS_predtext_parser_or_v927 N) c (fun u0 u1 u2 u3 => next (u0, u1, u2, u3)) v.1 v.2.1 v.2.2.1 v.2.2.2
abbrev r_predtext_parser_or_v927_0 (N : Nat) : (Int) × ((List pred_Node) × (List lex_Token) × Int × Int) → Option ((Int × Int × List lex_Token × Int × Int) ⊕ (List pred_Node × List lex_Token × Int × Int)) := fun a => loopV (f_predtext_parser_or_v927_0 N a.1) N a.2
def C_predtext_parser_and_v927 : Con tb := .m 206 [false, true] (.c (.ptr 0 0) (.c (.i .i64) .n)) (.c (.c (.r 6) (.c (.i .i64) (.c (.i .i64) .n))) .n) .n (fun N a => s_predtext_parser_and_v927 N a.1.2.1 a.2.1.1.1 a.2.1.1.2.1 a.2.1.1.2.2.1) (R := (Int × Int × List lex_Token × Int × Int) ⊕ (List pred_Node × List lex_Token × Int × Int)) (.or (.m (R := Int × Int × List lex_Token × Int × Int) (.ifc 16777480 (.ag (.c (.i .i64) (.c (.i .i64) .n)))) (.c (.c (.r 6) (.c (.i .i64) (.c (.i .i64) .n))) .n) .n (fun z => (z.1.1, z.1.2.1, z.2.1.1.1, z.2.1.1.2.1, z.2.1.1.2.2.1)) (fun r => ((r.1, r.2.1, ()), ((r.2.2.1, r.2.2.2.1, r.2.2.2.2, ()), ()), ())) (fun _ => rfl)) (.m (R := List pred_Node × List lex_Token × Int × Int) (.r 4) (.c (.c (.r 6) (.c (.i .i64) (.c (.i .i64) .n))) .n) .n (fun z => (z.1, z.2.1.1.1, z.2.1.1.2.1, z.2.1.1.2.2.1)) (fun r => (r.1, ((r.2.1, r.2.2.1, r.2.2.2, ()), ()), ())) (fun _ => rfl)))
def q_predtext_parser_and_v927_0 : LQ tb ((Int) × ((List pred_Node) × (List lex_Token) × Int × Int)) := (LQ.m [] [0, 1, 5] (.c 0 (.ptr 0 0) (.c 1 (.i .i64) (.c 5 (.r 4) .n))) (.c (.c (.r 6) (.c (.i .i64) (.c (.i .i64) .n))) .n) .n).re (fun a => (a.1.2.1, (a.1.2.2.1, a.2.1.1.1, a.2.1.1.2.1, a.2.1.1.2.2.1))) (fun x => (((), x.1, x.2.1, ()), ((x.2.2.1, x.2.2.2.1, x.2.2.2.2, ()), ()), ())) (fun _ => rfl)
def f_predtext_parser_and_v927_0 (N : Nat) (c : Int) (next : ((List pred_Node) × (List lex_Token) × Int × Int) → Option ((Int × Int × List lex_Token × Int × Int) ⊕ (List pred_Node × List lex_Token × Int × Int))) (v : (List pred_Node) × (List lex_Token) × Int × Int) : Option ((Int × Int × List lex_Token × Int × Int) ⊕ (List pred_Node × List lex_Token × Int × Int)) := s_predtext_parser_and_v927_1 N (SS_predtext_parser_or_v927 N) c (fun u0 u1 u2 u3 => next (u0, u1, u2, u3)) v.1 v.2.1 v.2.2.1 v.2.2.2
abbrev r_predtext_parser_and_v927_0 (N : Nat) : (Int) × ((List pred_Node) × (List lex_Token) × Int × Int) → Option ((Int × Int × List lex_Token × Int × Int) ⊕ (List pred_Node × List lex_Token × Int × Int)) := fun a => loopV (f_predtext_parser_and_v927_0 N a.1) N a.2
def C_predtext_parser_part_v927 : Con tb := .m 210 [false, true] (.c (.ptr 0 0) (.c (.i .i64) .n)) (.c (.c (.r 6) (.c (.i .i64) (.c (.i .i64) .n))) .n) .n (fun N a => s_predtext_parser_part_v927 N a.1.2.1 a.2.1.1.1 a.2.1.1.2.1 a.2.1.1.2.2.1) (R := (Int × Int × List lex_Token × Int × Int) ⊕ (List pred_Node × List lex_Token × Int × Int)) (.or (.m (R := Int × Int × List lex_Token × Int × Int) (.ifc 16777480 (.ag (.c (.i .i64) (.c (.i .i64) .n)))) (.c (.c (.r 6) (.c (.i .i64) (.c (.i .i64) .n))) .n) .n (fun z => (z.1.1, z.1.2.1, z.2.1.1.1, z.2.1.1.2.1, z.2.1.1.2.2.1)) (fun r => ((r.1, r.2.1, ()), ((r.2.2.1, r.2.2.2.1, r.2.2.2.2, ()), ()), ())) (fun _ => rfl)) (.m (R := List pred_Node × List lex_Token × Int × Int) (.r 4) (.c (.c (.r 6) (.c (.i .i64) (.c (.i .i64) .n))) .n) .n (fun z => (z.1, z.2.1.1.1, z.2.1.1.2.1, z.2.1.1.2.2.1)) (fun r => (r.1, ((r.2.1, r.2.2.1, r.2.2.2, ()), ()), ())) (fun _ => rfl)))
def C_pred_Node_stands : Con tb := .s 183 [true, true] (.c (.el tb_ok 4) (.c (.i .i64) .n)) (fun N a => s_pred_Node_stands N a.1 a.2.1) (R := Bool) (.p .b) (fun _ => ⟨rfl, (by kernel_rfl)⟩)
def C_schema_letter : Con tb := .s 96 [true] (.c (.i .u8) .n) (fun N a => s_schema_letter N a.1) (R := Bool) (.p .b) (fun _ => ⟨rfl, (by kernel_rfl)⟩)
def C_schema_Reserved : Con tb := .s 97 [true] (.c .s .n) (fun N a => s_schema_Reserved N a.1) (R := Bool) (.p .b) (fun _ => ⟨rfl, (by kernel_rfl)⟩)
def C_schema_tail : Con tb := .s 98 [true] (.c (.i .u8) .n) (fun N a => s_schema_tail N a.1) (R := Bool) (.p .b) (fun _ => ⟨rfl, (by kernel_rfl)⟩)
def C_schema_Name : Con tb := .s 49 [true] (.c .s .n) (fun N a => s_schema_Name N a.1) (R := Bool) (.p .b) (fun _ => ⟨rfl, (by kernel_rfl)⟩)
def q_schema_Name_0 : LQ tb (((List UInt8)) × (Int)) := (LQ.m [] [0, 3] (.c 0 .s (.c 3 (.i .i64) .n)) .n .n).re (fun a => (a.1.1, a.1.2.1)) (fun x => ((x.1, x.2, ()), (), ())) (fun _ => rfl)
def f_schema_Name_0 (N : Nat) (c : (List UInt8)) (next : Int → Option Bool) (v : Int) : Option Bool := s_schema_Name_1 N c (fun u0 => next u0) v
abbrev r_schema_Name_0 (N : Nat) : ((List UInt8)) × (Int) → Option Bool := fun a => loopV (f_schema_Name_0 N a.1) N a.2
def C_value_core : Con tb := .p 204 [true] (.c (.el tb_ok 8) .n) (fun N a => s_value_core N a.1) (R := Int ⊕ Int ⊕ Int ⊕ (List UInt8) ⊕ Unit) (.or (.p (.ifc 270 (.i .i64))) (.or (.p (.ifc 271 (.i .i64))) (.or (.p (.ifc 272 (.i .u64))) (.or (.p (.ifc 273 .s)) (.p .ni))))) (fun r => by rcases r with _ | _ | _ | _ | _ <;> exact rfl)
def C_value_number_whole : Con tb := .s 239 [true] (.c (.i .i64) .n) (fun N a => s_value_number_whole N a.1) (R := value_Value) (.p (.el tb_ok 8)) (fun _ => ⟨rfl, (by kernel_rfl)⟩)
def C_value_flag_whole : Con tb := .s 240 [true] (.c (.i .i64) .n) (fun N a => s_value_flag_whole N a.1) (R := value_Value) (.p (.el tb_ok 8)) (fun _ => ⟨rfl, (by kernel_rfl)⟩)
def C_real_of : Con tb := .s 180 [true] (.c (.i .u64) .n) (fun N a => s_real_of N a.1) (R := Nat) (.p (.f .f64)) (fun _ => ⟨rfl, (by kernel_rfl)⟩)
def C_real_Clean : Con tb := .s 163 [true] (.c (.i .u64) .n) (fun N a => s_real_Clean N a.1) (R := Int) (.p (.i .u64)) (fun _ => ⟨rfl, (by kernel_rfl)⟩)
def C_value_double_whole : Con tb := .s 241 [true] (.c (.i .u64) .n) (fun N a => s_value_double_whole N a.1) (R := value_Value) (.p (.el tb_ok 8)) (fun _ => ⟨rfl, (by kernel_rfl)⟩)
def C_value_words_whole : Con tb := .s 242 [true] (.c .s .n) (fun N a => s_value_words_whole N a.1) (R := value_Value) (.p (.el tb_ok 8)) (fun _ => ⟨rfl, (by kernel_rfl)⟩)
def C_value_Check : Con tb := .s 199 [true] (.c (.el tb_ok 8) .n) (fun N a => s_value_Check N a.1) (R := Int) (.p (.i .i64)) (fun _ => ⟨rfl, (by kernel_rfl)⟩)
def C_pred_Node_lacks : Con tb := .s 185 [true] (.c (.el tb_ok 4) .n) (fun N a => s_pred_Node_lacks N a.1) (R := Bool) (.p .b) (fun _ => ⟨rfl, (by kernel_rfl)⟩)
def C_pred_is_v782 : Con tb := .s 184 [true, false, true] (.c (.el tb_ok 4) (.c (.fn 185 .n .n) (.c (.i .i64) .n))) (fun N a => s_pred_is_v782 N a.1 a.2.2.1) (R := Int) (.p (.i .i64)) (fun _ => ⟨rfl, (by kernel_rfl)⟩)
def C_pred_is_v272 : Con tb := .s 184 [true, false, true] (.c (.el tb_ok 4) (.c (.fn 186 .n .n) (.c (.i .i64) .n))) (fun N a => s_pred_is_v272 N a.1 a.2.2.1) (R := Int) (.p (.i .i64)) (fun _ => ⟨rfl, (by kernel_rfl)⟩)
def C_pred_Kids : Con tb := .s 187 [true] (.c (.i .u8) .n) (fun N a => s_pred_Kids N a.1) (R := Int) (.p (.i .i64)) (fun _ => ⟨rfl, (by kernel_rfl)⟩)
def C_pred_Node_kid : Con tb := .s 188 [true, true] (.c (.el tb_ok 4) (.c (.i .i64) .n)) (fun N a => s_pred_Node_kid N a.1 a.2.1) (R := Int) (.p (.i .i64)) (fun _ => ⟨rfl, (by kernel_rfl)⟩)
def C_pred_checker_tree_v739 : Con tb := .m 169 [false, true, true] (.c (.ptr 0 0) (.c (.i .i64) (.c (.i .i64) .n))) (.c (.c (.r 4) (.c (.i .i64) .n)) .n) .n (fun N a => s_pred_checker_tree_v739 N a.1.2.1 a.1.2.2.1 a.2.1.1.1 a.2.1.1.2.1) (R := Int × List pred_Node × Int) (.m (R := Int × List pred_Node × Int) (.i .i64) (.c (.c (.r 4) (.c (.i .i64) .n)) .n) .n (fun z => (z.1, z.2.1.1.1, z.2.1.1.2.1)) (fun r => (r.1, ((r.2.1, r.2.2, ()), ()), ())) (fun _ => rfl))
def q_pred_checker_tree_v739_0 : LQ tb ((Int × Int × Int × Int × (List UInt8) × (List UInt8) × Int × Int × Int × (List UInt8)) × (Int × (List pred_Node) × Int)) := (LQ.m [] [0, 2, 7, 57, 58] (.c 0 (.ptr 0 0) (.c 2 (.i .i64) (.c 7 (.ptr 1 0) (.c 57 (.i .i64) (.c 58 (.i .i64) .n))))) (.c (.c (.r 4) (.c (.i .i64) .n)) (.c (.c (.i .u8) (.c (.i .u8) (.c .s (.c .s (.c (.i .u8) (.c (.i .i64) (.c (.i .u64) (.c .s .n)))))))) .n)) .n).re (fun a => ((a.1.2.1, a.1.2.2.2.1, a.2.1.2.1.1, a.2.1.2.1.2.1, a.2.1.2.1.2.2.1, a.2.1.2.1.2.2.2.1, a.2.1.2.1.2.2.2.2.1, a.2.1.2.1.2.2.2.2.2.1, a.2.1.2.1.2.2.2.2.2.2.1, a.2.1.2.1.2.2.2.2.2.2.2.1), (a.1.2.2.2.2.1, a.2.1.1.1, a.2.1.1.2.1))) (fun x => (((), x.1.1, (), x.1.2.1, x.2.1, ()), ((x.2.2.1, x.2.2.2, ()), (x.1.2.2.1, x.1.2.2.2.1, x.1.2.2.2.2.1, x.1.2.2.2.2.2.1, x.1.2.2.2.2.2.2.1, x.1.2.2.2.2.2.2.2.1, x.1.2.2.2.2.2.2.2.2.1, x.1.2.2.2.2.2.2.2.2.2, ()), ()), ())) (fun _ => rfl)
def f_pred_checker_tree_v739_0 (N : Nat) (c : Int × Int × Int × Int × (List UInt8) × (List UInt8) × Int × Int × Int × (List UInt8)) (next : (Int × (List pred_Node) × Int) → Option (Int × List pred_Node × Int)) (v : Int × (List pred_Node) × Int) : Option (Int × List pred_Node × Int) := s_pred_checker_tree_v739_1 N (SS_pred_checker_tree_v739 N) c.1 c.2.1 c.2.2.1 c.2.2.2.1 c.2.2.2.2.1 c.2.2.2.2.2.1 c.2.2.2.2.2.2.1 c.2.2.2.2.2.2.2.1 c.2.2.2.2.2.2.2.2.1 c.2.2.2.2.2.2.2.2.2 (fun u0 u1 u2 => next (u0, u1, u2)) v.1 v.2.1 v.2.2
abbrev r_pred_checker_tree_v739_0 (N : Nat) : (Int × Int × Int × Int × (List UInt8) × (List UInt8) × Int × Int × Int × (List UInt8)) × (Int × (List pred_Node) × Int) → Option (Int × List pred_Node × Int) := fun a => loopV (f_pred_checker_tree_v739_0 N a.1) N a.2
def C_pred_Check : Con tb := .s 141 [true] (.c (.r 4) .n) (fun N a => s_pred_Check N a.1) (R := Int) (.p (.i .i64)) (fun _ => ⟨rfl, (by kernel_rfl)⟩)
def C_predtext_Parse : Con tb := .p 196 [true, true, true] (.c (.r 6) (.c (.i .i64) (.c (.i .i64) .n))) (fun N a => s_predtext_Parse N a.1 a.2.1 a.2.2.1) (R := (List pred_Node × Int) ⊕ (List pred_Node × Int × Int × Int)) (.or (.m (R := List pred_Node × Int) (.tu (.c (.r 4) (.c (.i .i64) (.c .ni .n)))) .n .n (fun z => (z.1.1, z.1.2.1)) (fun r => ((r.1, r.2, (), ()), (), ())) (fun _ => rfl)) (.m (R := List pred_Node × Int × Int × Int) (.tu (.c (.r 4) (.c (.i .i64) (.o (.ifc 172 (.dp (.c (.i .i64) (.c (.i .i64) .n)))))))) .n .n (fun z => (z.1.1, z.1.2.1, z.1.2.2.1, z.1.2.2.2.1)) (fun r => ((r.1, r.2.1, r.2.2.1, r.2.2.2, ()), (), ())) (fun _ => rfl))) (fun r => by rcases r with _ | _ <;> exact rfl)
def C_law15_awake : Con tb := .s 9 [] .n (fun N a => s_law15_awake N) (R := Bool) (.p .b) (fun _ => ⟨rfl, (by kernel_rfl)⟩)
def C_law11_Own : Con tb := .p 23 [true] (.c (.r 4) .n) (fun N a => s_law11_Own N a.1) (R := List pred_Node) (.p (.r 4)) (fun _ => rfl)
def q_law11_Own_0 : LQ tb (((List pred_Node)) × (Int × (List pred_Node))) := (LQ.m [(3, none, 4)] [0, 3, 4] (.c 0 (.r 4) (.c 3 (.own 0) (.c 4 (.i .i64) .n))) .n (.l 4 .n)).re (fun a => (a.1.1, (a.1.2.2.1, a.2.2.1))) (fun x => ((x.1, (), x.2.1, ()), (), x.2.2, ())) (fun _ => rfl)
def f_law11_Own_0 (N : Nat) (c : (List pred_Node)) (next : (Int × (List pred_Node)) → Option (List pred_Node)) (v : Int × (List pred_Node)) : Option (List pred_Node) := s_law11_Own_1 N c (fun u0 u1 => next (u0, u1)) v.1 v.2
abbrev r_law11_Own_0 (N : Nat) : ((List pred_Node)) × (Int × (List pred_Node)) → Option (List pred_Node) := fun a => loopV (f_law11_Own_0 N a.1) N a.2
def C_law13_Own : Con tb := .p 10 [true] (.c (.el tb_ok 9) .n) (fun N a => s_law13_Own N a.1) (R := shape_Pattern) (.p (.el tb_ok 9)) (fun _ => rfl)
def q_law13_Own_0 : LQ tb (((List shape_Node) × Int × (List UInt8) × Int × Int × (List UInt8) × Int) × (Int × (List shape_Node))) := (LQ.m [(3, some 0, 5)] [1, 2, 3, 4] (.c 1 (.ptr 0 0) (.c 2 (.ptr 1 0) (.c 3 (.ptr 2 0) (.c 4 (.i .i64) .n)))) (.c (.c (.r 5) (.c (.i .i64) (.c .s (.c (.i .u8) .n)))) (.c (.c .e (.c (.li .i64 0) (.c (.ls []) (.c (.li .u8 0) .n)))) (.c (.c (.own 0) (.c (.i .i64) (.c .s (.c (.i .u8) .n)))) .n))) (.l 5 .n)).re (fun a => ((a.2.1.1.1, a.2.1.1.2.1, a.2.1.1.2.2.1, a.2.1.1.2.2.2.1, a.2.1.2.2.1.2.1, a.2.1.2.2.1.2.2.1, a.2.1.2.2.1.2.2.2.1), (a.1.2.2.2.1, a.2.2.1))) (fun x => (((), (), (), x.2.1, ()), ((x.1.1, x.1.2.1, x.1.2.2.1, x.1.2.2.2.1, ()), ((), (), (), (), ()), ((), x.1.2.2.2.2.1, x.1.2.2.2.2.2.1, x.1.2.2.2.2.2.2, ()), ()), x.2.2, ())) (fun _ => rfl)
def f_law13_Own_0 (N : Nat) (c : (List shape_Node) × Int × (List UInt8) × Int × Int × (List UInt8) × Int) (next : (Int × (List shape_Node)) → Option shape_Pattern) (v : Int × (List shape_Node)) : Option shape_Pattern := s_law13_Own_1 N c.1 c.2.2.2.2.1 c.2.2.2.2.2.1 c.2.2.2.2.2.2 (fun u0 u1 => next (u0, u1)) v.1 v.2
abbrev r_law13_Own_0 (N : Nat) : ((List shape_Node) × Int × (List UInt8) × Int × Int × (List UInt8) × Int) × (Int × (List shape_Node)) → Option shape_Pattern := fun a => loopV (f_law13_Own_0 N a.1) N a.2
def C_shape_Node_list : Con tb := .s 139 [true] (.c (.el tb_ok 5) .n) (fun N a => s_shape_Node_list N a.1) (R := Bool) (.p .b) (fun _ => ⟨rfl, (by kernel_rfl)⟩)
def C_shape_Node_stands : Con tb := .s 92 [true, true] (.c (.el tb_ok 5) (.c (.i .u8) .n)) (fun N a => s_shape_Node_stands N a.1 a.2.1) (R := Bool) (.p .b) (fun _ => ⟨rfl, (by kernel_rfl)⟩)
def C_shape_Node_often : Con tb := .s 140 [true] (.c (.el tb_ok 5) .n) (fun N a => s_shape_Node_often N a.1) (R := Bool) (.p .b) (fun _ => ⟨rfl, (by kernel_rfl)⟩)
def C_shape_Node_lacks : Con tb := .s 93 [true] (.c (.el tb_ok 5) .n) (fun N a => s_shape_Node_lacks N a.1) (R := Bool) (.p .b) (fun _ => ⟨rfl, (by kernel_rfl)⟩)
def C_shape_Node_leaf : Con tb := .s 142 [true] (.c (.el tb_ok 5) .n) (fun N a => s_shape_Node_leaf N a.1) (R := Bool) (.p .b) (fun _ => ⟨rfl, (by kernel_rfl)⟩)
def C_shape_Node_more : Con tb := .s 94 [true] (.c (.el tb_ok 5) .n) (fun N a => s_shape_Node_more N a.1) (R := Bool) (.p .b) (fun _ => ⟨rfl, (by kernel_rfl)⟩)
def C_shape_Node_kids : Con tb := .s 95 [true] (.c (.el tb_ok 5) .n) (fun N a => s_shape_Node_kids N a.1) (R := Int) (.p (.i .i64)) (fun _ => ⟨rfl, (by kernel_rfl)⟩)
def C_shape_tree : Con tb := .p 48 [true, true, true] (.c (.r 5) (.c (.i .u8) (.c (.i .i64) .n))) (fun N a => s_shape_tree N a.1 a.2.1 a.2.2.1) (R := List shape_Node × Int) (.p (.tu (.c (.r 5) (.o (.i .i64))))) (fun _ => rfl)
def q_shape_tree_1 : LQ tb ((Int × Int × Int × Int × Int × Int × (List UInt8) × (List UInt8) × (List pred_Node)) × ((List shape_Node) × Int)) := (LQ.m [] [2, 8, 9, 42, 43] (.c 2 (.i .i64) (.c 8 (.ptr 0 0) (.c 9 (.r 5) (.c 42 (.i .i64) (.c 43 (.i .i64) .n))))) (.c (.c (.i .u8) (.c (.i .i64) (.c (.i .i64) (.c (.i .i64) (.c .s (.c .s (.c (.r 4) .n))))))) .n) .n).re (fun a => ((a.1.1, a.1.2.2.2.1, a.2.1.1.1, a.2.1.1.2.1, a.2.1.1.2.2.1, a.2.1.1.2.2.2.1, a.2.1.1.2.2.2.2.1, a.2.1.1.2.2.2.2.2.1, a.2.1.1.2.2.2.2.2.2.1), (a.1.2.2.1, a.1.2.2.2.2.1))) (fun x => ((x.1.1, (), x.2.1, x.1.2.1, x.2.2, ()), ((x.1.2.2.1, x.1.2.2.2.1, x.1.2.2.2.2.1, x.1.2.2.2.2.2.1, x.1.2.2.2.2.2.2.1, x.1.2.2.2.2.2.2.2.1, x.1.2.2.2.2.2.2.2.2, ()), ()), ())) (fun _ => rfl)
def f_shape_tree_1 (N : Nat) (c : Int × Int × Int × Int × Int × Int × (List UInt8) × (List UInt8) × (List pred_Node)) (next : ((List shape_Node) × Int) → Option (List shape_Node × Int)) (v : (List shape_Node) × Int) : Option (List shape_Node × Int) := s_shape_tree_1 N (SS_shape_tree N) c.1 c.2.1 c.2.2.1 (fun u0 u1 => next (u0, u1)) v.1 v.2
abbrev r_shape_tree_1 (N : Nat) : (Int × Int × Int × Int × Int × Int × (List UInt8) × (List UInt8) × (List pred_Node)) × ((List shape_Node) × Int) → Option (List shape_Node × Int) := fun a => loopV (f_shape_tree_1 N a.1) N a.2
def C_shape_Word : Con tb := .s 50 [true] (.c (.i .u8) .n) (fun N a => s_shape_Word N a.1) (R := List UInt8) (.p .s) (fun _ => ⟨rfl, (by kernel_rfl)⟩)
def C_shape_Check : Con tb := .s 24 [true] (.c (.el tb_ok 9) .n) (fun N a => s_shape_Check N a.1) (R := Int) (.p (.i .i64)) (fun _ => ⟨rfl, (by kernel_rfl)⟩)
def C_scope_leaf : Con tb := .s 28 [true] (.c (.el tb_ok 5) .n) (fun N a => s_scope_leaf N a.1) (R := Bool) (.p .b) (fun _ => ⟨rfl, (by kernel_rfl)⟩)
def C_scope_walker_choice_v240 : Con tb := .m 77 [false] (.c (.ptr 0 0) .n) (.c (.c (.r 5) (.c (.r 0) (.c (.i .i64) (.c .e (.c .b .n))))) .n) .n (fun N a => s_scope_walker_choice_v240 N a.2.1.1.1 a.2.1.1.2.1 a.2.1.1.2.2.1 a.2.1.1.2.2.2.2.1) (R := Int × List shape_Node × List Int × Int × Bool) (.m (R := Int × List shape_Node × List Int × Int × Bool) (.i .i64) (.c (.c (.r 5) (.c (.r 0) (.c (.i .i64) (.c .e (.c .b .n))))) .n) .n (fun z => (z.1, z.2.1.1.1, z.2.1.1.2.1, z.2.1.1.2.2.1, z.2.1.1.2.2.2.2.1)) (fun r => (r.1, ((r.2.1, r.2.2.1, r.2.2.2.1, (), r.2.2.2.2, ()), ()), ())) (fun _ => rfl))
def C_shape_Size : Con tb := .s 78 [true, true] (.c (.r 5) (.c (.i .i64) .n)) (fun N a => s_shape_Size N a.1 a.2.1) (R := Int) (.p (.i .i64)) (fun _ => ⟨rfl, (by kernel_rfl)⟩)
def q_shape_Size_0 : LQ tb (((List shape_Node) × Int) × (Int × Int)) := (LQ.m [] [5, 18, 19, 20] (.c 5 (.i .i64) (.c 18 (.r 5) (.c 19 (.i .i64) (.c 20 (.i .i64) .n)))) .n .n).re (fun a => ((a.1.2.1, a.1.2.2.1), (a.1.1, a.1.2.2.2.1))) (fun x => ((x.2.1, x.1.1, x.1.2, x.2.2, ()), (), ())) (fun _ => rfl)
def f_shape_Size_0 (N : Nat) (c : (List shape_Node) × Int) (next : (Int × Int) → Option Int) (v : Int × Int) : Option Int := s_shape_Size_1 N c.1 c.2 (fun u0 u1 => next (u0, u1)) v.1 v.2
abbrev r_shape_Size_0 (N : Nat) : ((List shape_Node) × Int) × (Int × Int) → Option Int := fun a => loopV (f_shape_Size_0 N a.1) N a.2
def C_scope_walker_choice_v758 : Con tb := .m 77 [false] (.c (.ptr 0 0) .n) (.c (.c (.r 5) (.c (.r 0) (.c (.i .i64) (.c (.own 0) (.c .b .n))))) .n) (.l 0 .n) (fun N a => s_scope_walker_choice_v758 N a.2.1.1.1 a.2.1.1.2.1 a.2.1.1.2.2.1 a.2.1.1.2.2.2.2.1 a.2.2.1) (R := Int × List shape_Node × List Int × Int × Bool × List Int) (.m (R := Int × List shape_Node × List Int × Int × Bool × List Int) (.i .i64) (.c (.c (.r 5) (.c (.r 0) (.c (.i .i64) (.c (.own 0) (.c .b .n))))) .n) (.l 0 .n) (fun z => (z.1, z.2.1.1.1, z.2.1.1.2.1, z.2.1.1.2.2.1, z.2.1.1.2.2.2.2.1, z.2.2.1)) (fun r => (r.1, ((r.2.1, r.2.2.1, r.2.2.2.1, (), r.2.2.2.2.1, ()), ()), r.2.2.2.2.2, ())) (fun _ => rfl))
def C_scope_walker_tree_v950 : Con tb := .m 41 [false, true] (.c (.ptr 0 0) (.c (.i .i64) .n)) (.c (.c (.r 5) (.c (.r 0) (.c (.i .i64) (.c (.own 0) (.c .b .n))))) .n) (.l 0 .n) (fun N a => s_scope_walker_tree_v950 N a.1.2.1 a.2.1.1.1 a.2.1.1.2.1 a.2.1.1.2.2.1 a.2.1.1.2.2.2.2.1 a.2.2.1) (R := (List shape_Node × List Int × Int × Bool × List Int) ⊕ (List shape_Node × List Int × Int × Bool × List Int)) (.or (.m (R := List shape_Node × List Int × Int × Bool × List Int) (.tu .n) (.c (.c (.r 5) (.c (.r 0) (.c (.i .i64) (.c (.own 0) (.c .b .n))))) .n) (.l 0 .n) (fun z => (z.2.1.1.1, z.2.1.1.2.1, z.2.1.1.2.2.1, z.2.1.1.2.2.2.2.1, z.2.2.1)) (fun r => ((), ((r.1, r.2.1, r.2.2.1, (), r.2.2.2.1, ()), ()), r.2.2.2.2, ())) (fun _ => rfl)) (.m (R := List shape_Node × List Int × Int × Bool × List Int) (.tu .n) (.c (.c (.r 5) (.c (.r 0) (.c (.i .i64) (.c (.own 1) (.c .b .n))))) .n) (.d (.l 0 .n)) (fun z => (z.2.1.1.1, z.2.1.1.2.1, z.2.1.1.2.2.1, z.2.1.1.2.2.2.2.1, z.2.2.1)) (fun r => ((), ((r.1, r.2.1, r.2.2.1, (), r.2.2.2.1, ()), ()), r.2.2.2.2, ())) (fun _ => rfl)))
def q_scope_walker_tree_v950_3 : LQ tb ((Int × (List shape_Node) × (List Int) × Int × Bool × (List Int)) × (Int × Int)) := (LQ.m [] [0, 5, 80, 81] (.c 0 (.ptr 0 0) (.c 5 (.i .i64) (.c 80 (.i .i64) (.c 81 (.i .i64) .n)))) (.c (.c (.r 5) (.c (.r 0) (.c (.i .i64) (.c (.own 0) (.c .b .n))))) .n) (.l 0 .n)).re (fun a => ((a.1.2.2.1, a.2.1.1.1, a.2.1.1.2.1, a.2.1.1.2.2.1, a.2.1.1.2.2.2.2.1, a.2.2.1), (a.1.2.1, a.1.2.2.2.1))) (fun x => (((), x.2.1, x.1.1, x.2.2, ()), ((x.1.2.1, x.1.2.2.1, x.1.2.2.2.1, (), x.1.2.2.2.2.1, ()), ()), x.1.2.2.2.2.2, ())) (fun _ => rfl)
def q_scope_walker_tree_v950_5 : LQ tb ((Int × Int) × (Int × (List shape_Node) × (List Int) × Int × Bool × (List Int))) := (LQ.m [(0, some 3, 0)] [0, 1, 6, 7] (.c 0 (.ptr 0 0) (.c 1 (.i .i64) (.c 6 (.i .i64) (.c 7 (.i .i64) .n)))) (.c (.c (.r 5) (.c (.r 0) (.c (.i .i64) (.c (.own 1) (.c .b .n))))) .n) (.d (.l 0 .n))).re (fun a => ((a.1.2.1, a.1.2.2.1), (a.1.2.2.2.1, a.2.1.1.1, a.2.1.1.2.1, a.2.1.1.2.2.1, a.2.1.1.2.2.2.2.1, a.2.2.1))) (fun x => (((), x.1.1, x.1.2, x.2.1, ()), ((x.2.2.1, x.2.2.2.1, x.2.2.2.2.1, (), x.2.2.2.2.2.1, ()), ()), x.2.2.2.2.2.2, ())) (fun _ => rfl)
def q_scope_walker_tree_v950_1 : LQ tb ((Int × Int × Int × Int × (List UInt8) × (List UInt8) × (List pred_Node)) × (Int × Int × (List shape_Node) × (List Int) × Int × Bool × (List Int))) := (LQ.m [(0, some 3, 0)] [0, 4, 8, 9] (.c 0 (.ptr 0 0) (.c 4 (.ptr 1 0) (.c 8 (.i .i64) (.c 9 (.i .i64) .n)))) (.c (.c (.r 5) (.c (.r 0) (.c (.i .i64) (.c (.own 1) (.c .b .n))))) (.c (.c (.i .u8) (.c (.i .i64) (.c (.i .i64) (.c (.i .i64) (.c .s (.c .s (.c (.r 4) .n))))))) .n)) (.d (.l 0 .n))).re (fun a => ((a.2.1.2.1.1, a.2.1.2.1.2.1, a.2.1.2.1.2.2.1, a.2.1.2.1.2.2.2.1, a.2.1.2.1.2.2.2.2.1, a.2.1.2.1.2.2.2.2.2.1, a.2.1.2.1.2.2.2.2.2.2.1), (a.1.2.2.1, a.1.2.2.2.1, a.2.1.1.1, a.2.1.1.2.1, a.2.1.1.2.2.1, a.2.1.1.2.2.2.2.1, a.2.2.1))) (fun x => (((), (), x.2.1, x.2.2.1, ()), ((x.2.2.2.1, x.2.2.2.2.1, x.2.2.2.2.2.1, (), x.2.2.2.2.2.2.1, ()), (x.1.1, x.1.2.1, x.1.2.2.1, x.1.2.2.2.1, x.1.2.2.2.2.1, x.1.2.2.2.2.2.1, x.1.2.2.2.2.2.2, ()), ()), x.2.2.2.2.2.2.2, ())) (fun _ => rfl)
def f_scope_walker_tree_v950_3 (N : Nat) (c : Int × (List shape_Node) × (List Int) × Int × Bool × (List Int)) (next : (Int × Int) → Option ((List shape_Node × List Int × Int × Bool × List Int) ⊕ (List shape_Node × List Int × Int × Bool × List Int))) (v : Int × Int) : Option ((List shape_Node × List Int × Int × Bool × List Int) ⊕ (List shape_Node × List Int × Int × Bool × List Int)) := s_scope_walker_tree_v950_1 N (SS_scope_walker_tree_v950 N) c.1 c.2.1 c.2.2.1 c.2.2.2.1 c.2.2.2.2.1 c.2.2.2.2.2 (fun u0 u1 => next (u0, u1)) v.1 v.2
abbrev r_scope_walker_tree_v950_3 (N : Nat) : (Int × (List shape_Node) × (List Int) × Int × Bool × (List Int)) × (Int × Int) → Option ((List shape_Node × List Int × Int × Bool × List Int) ⊕ (List shape_Node × List Int × Int × Bool × List Int)) := fun a => loopV (f_scope_walker_tree_v950_3 N a.1) N a.2
def f_scope_walker_tree_v950_5 (N : Nat) (c : Int × Int) (next : (Int × (List shape_Node) × (List Int) × Int × Bool × (List Int)) → Option ((List shape_Node × List Int × Int × Bool × List Int) ⊕ (List shape_Node × List Int × Int × Bool × List Int))) (v : Int × (List shape_Node) × (List Int) × Int × Bool × (List Int)) : Option ((List shape_Node × List Int × Int × Bool × List Int) ⊕ (List shape_Node × List Int × Int × Bool × List Int)) := s_scope_walker_tree_v950_2 N (SS_scope_walker_tree_v950 N) c.1 c.2 (fun u0 u1 u2 u3 u4 u5 => next (u0, u1, u2, u3, u4, u5)) v.1 v.2.1 v.2.2.1 v.2.2.2.1 v.2.2.2.2.1 v.2.2.2.2.2
abbrev r_scope_walker_tree_v950_5 (N : Nat) : (Int × Int) × (Int × (List shape_Node) × (List Int) × Int × Bool × (List Int)) → Option ((List shape_Node × List Int × Int × Bool × List Int) ⊕ (List shape_Node × List Int × Int × Bool × List Int)) := fun a => loopV (f_scope_walker_tree_v950_5 N a.1) N a.2
def f_scope_walker_tree_v950_1 (N : Nat) (c : Int × Int × Int × Int × (List UInt8) × (List UInt8) × (List pred_Node)) (next : (Int × Int × (List shape_Node) × (List Int) × Int × Bool × (List Int)) → Option ((List shape_Node × List Int × Int × Bool × List Int) ⊕ (List shape_Node × List Int × Int × Bool × List Int))) (v : Int × Int × (List shape_Node) × (List Int) × Int × Bool × (List Int)) : Option ((List shape_Node × List Int × Int × Bool × List Int) ⊕ (List shape_Node × List Int × Int × Bool × List Int)) := s_scope_walker_tree_v950_3 N (SS_scope_walker_tree_v950 N) c.2.1 (fun u0 u1 u2 u3 u4 u5 u6 => next (u0, u1, u2, u3, u4, u5, u6)) v.1 v.2.1 v.2.2.1 v.2.2.2.1 v.2.2.2.2.1 v.2.2.2.2.2.1 v.2.2.2.2.2.2
abbrev r_scope_walker_tree_v950_1 (N : Nat) : (Int × Int × Int × Int × (List UInt8) × (List UInt8) × (List pred_Node)) × (Int × Int × (List shape_Node) × (List Int) × Int × Bool × (List Int)) → Option ((List shape_Node × List Int × Int × Bool × List Int) ⊕ (List shape_Node × List Int × Int × Bool × List Int)) := fun a => loopV (f_scope_walker_tree_v950_1 N a.1) N a.2
def C_scope_walker_tree_v577 : Con tb := .m 41 [false, true] (.c (.ptr 0 0) (.c (.i .i64) .n)) (.c (.c (.r 5) (.c (.r 0) (.c (.i .i64) (.c .e (.c .b .n))))) .n) .n (fun N a => s_scope_walker_tree_v577 N a.1.2.1 a.2.1.1.1 a.2.1.1.2.1 a.2.1.1.2.2.1 a.2.1.1.2.2.2.2.1) (R := (List shape_Node × List Int × Int × Bool) ⊕ (List shape_Node × List Int × Int × Bool × List Int)) (.or (.m (R := List shape_Node × List Int × Int × Bool) (.tu .n) (.c (.c (.r 5) (.c (.r 0) (.c (.i .i64) (.c .e (.c .b .n))))) .n) .n (fun z => (z.2.1.1.1, z.2.1.1.2.1, z.2.1.1.2.2.1, z.2.1.1.2.2.2.2.1)) (fun r => ((), ((r.1, r.2.1, r.2.2.1, (), r.2.2.2, ()), ()), ())) (fun _ => rfl)) (.m (R := List shape_Node × List Int × Int × Bool × List Int) (.tu .n) (.c (.c (.r 5) (.c (.r 0) (.c (.i .i64) (.c (.own 0) (.c .b .n))))) .n) (.l 0 .n) (fun z => (z.2.1.1.1, z.2.1.1.2.1, z.2.1.1.2.2.1, z.2.1.1.2.2.2.2.1, z.2.2.1)) (fun r => ((), ((r.1, r.2.1, r.2.2.1, (), r.2.2.2.1, ()), ()), r.2.2.2.2, ())) (fun _ => rfl)))
def q_scope_walker_tree_v577_3 : LQ tb ((Int × (List shape_Node) × (List Int) × Int × Bool) × (Int × Int)) := (LQ.m [] [0, 5, 80, 81] (.c 0 (.ptr 0 0) (.c 5 (.i .i64) (.c 80 (.i .i64) (.c 81 (.i .i64) .n)))) (.c (.c (.r 5) (.c (.r 0) (.c (.i .i64) (.c .e (.c .b .n))))) .n) .n).re (fun a => ((a.1.2.2.1, a.2.1.1.1, a.2.1.1.2.1, a.2.1.1.2.2.1, a.2.1.1.2.2.2.2.1), (a.1.2.1, a.1.2.2.2.1))) (fun x => (((), x.2.1, x.1.1, x.2.2, ()), ((x.1.2.1, x.1.2.2.1, x.1.2.2.2.1, (), x.1.2.2.2.2, ()), ()), ())) (fun _ => rfl)
def q_scope_walker_tree_v577_5 : LQ tb ((Int × Int) × (Int × (List shape_Node) × (List Int) × Int × Bool × (List Int))) := (LQ.m [(0, some 3, 0)] [0, 1, 6, 7] (.c 0 (.ptr 0 0) (.c 1 (.i .i64) (.c 6 (.i .i64) (.c 7 (.i .i64) .n)))) (.c (.c (.r 5) (.c (.r 0) (.c (.i .i64) (.c (.own 0) (.c .b .n))))) .n) (.l 0 .n)).re (fun a => ((a.1.2.1, a.1.2.2.1), (a.1.2.2.2.1, a.2.1.1.1, a.2.1.1.2.1, a.2.1.1.2.2.1, a.2.1.1.2.2.2.2.1, a.2.2.1))) (fun x => (((), x.1.1, x.1.2, x.2.1, ()), ((x.2.2.1, x.2.2.2.1, x.2.2.2.2.1, (), x.2.2.2.2.2.1, ()), ()), x.2.2.2.2.2.2, ())) (fun _ => rfl)
def q_scope_walker_tree_v577_1 : LQ tb ((Int × Int × Int × Int × (List UInt8) × (List UInt8) × (List pred_Node)) × (Int × Int × (List shape_Node) × (List Int) × Int × Bool × (List Int))) := (LQ.m [(0, some 3, 0)] [0, 4, 8, 9] (.c 0 (.ptr 0 0) (.c 4 (.ptr 1 0) (.c 8 (.i .i64) (.c 9 (.i .i64) .n)))) (.c (.c (.r 5) (.c (.r 0) (.c (.i .i64) (.c (.own 0) (.c .b .n))))) (.c (.c (.i .u8) (.c (.i .i64) (.c (.i .i64) (.c (.i .i64) (.c .s (.c .s (.c (.r 4) .n))))))) .n)) (.l 0 .n)).re (fun a => ((a.2.1.2.1.1, a.2.1.2.1.2.1, a.2.1.2.1.2.2.1, a.2.1.2.1.2.2.2.1, a.2.1.2.1.2.2.2.2.1, a.2.1.2.1.2.2.2.2.2.1, a.2.1.2.1.2.2.2.2.2.2.1), (a.1.2.2.1, a.1.2.2.2.1, a.2.1.1.1, a.2.1.1.2.1, a.2.1.1.2.2.1, a.2.1.1.2.2.2.2.1, a.2.2.1))) (fun x => (((), (), x.2.1, x.2.2.1, ()), ((x.2.2.2.1, x.2.2.2.2.1, x.2.2.2.2.2.1, (), x.2.2.2.2.2.2.1, ()), (x.1.1, x.1.2.1, x.1.2.2.1, x.1.2.2.2.1, x.1.2.2.2.2.1, x.1.2.2.2.2.2.1, x.1.2.2.2.2.2.2, ()), ()), x.2.2.2.2.2.2.2, ())) (fun _ => rfl)
def f_scope_walker_tree_v577_3 (N : Nat) (c : Int × (List shape_Node) × (List Int) × Int × Bool) (next : (Int × Int) → Option ((List shape_Node × List Int × Int × Bool) ⊕ (List shape_Node × List Int × Int × Bool × List Int))) (v : Int × Int) : Option ((List shape_Node × List Int × Int × Bool) ⊕ (List shape_Node × List Int × Int × Bool × List Int)) := s_scope_walker_tree_v577_1 N (SS_scope_walker_tree_v577 N) c.1 c.2.1 c.2.2.1 c.2.2.2.1 c.2.2.2.2 (fun u0 u1 => next (u0, u1)) v.1 v.2
abbrev r_scope_walker_tree_v577_3 (N : Nat) : (Int × (List shape_Node) × (List Int) × Int × Bool) × (Int × Int) → Option ((List shape_Node × List Int × Int × Bool) ⊕ (List shape_Node × List Int × Int × Bool × List Int)) := fun a => loopV (f_scope_walker_tree_v577_3 N a.1) N a.2
def f_scope_walker_tree_v577_5 (N : Nat) (c : Int × Int) (next : (Int × (List shape_Node) × (List Int) × Int × Bool × (List Int)) → Option ((List shape_Node × List Int × Int × Bool) ⊕ (List shape_Node × List Int × Int × Bool × List Int))) (v : Int × (List shape_Node) × (List Int) × Int × Bool × (List Int)) : Option ((List shape_Node × List Int × Int × Bool) ⊕ (List shape_Node × List Int × Int × Bool × List Int)) := s_scope_walker_tree_v577_2 N (SS_scope_walker_tree_v577 N) c.1 c.2 (fun u0 u1 u2 u3 u4 u5 => next (u0, u1, u2, u3, u4, u5)) v.1 v.2.1 v.2.2.1 v.2.2.2.1 v.2.2.2.2.1 v.2.2.2.2.2
abbrev r_scope_walker_tree_v577_5 (N : Nat) : (Int × Int) × (Int × (List shape_Node) × (List Int) × Int × Bool × (List Int)) → Option ((List shape_Node × List Int × Int × Bool) ⊕ (List shape_Node × List Int × Int × Bool × List Int)) := fun a => loopV (f_scope_walker_tree_v577_5 N a.1) N a.2
def f_scope_walker_tree_v577_1 (N : Nat) (c : Int × Int × Int × Int × (List UInt8) × (List UInt8) × (List pred_Node)) (next : (Int × Int × (List shape_Node) × (List Int) × Int × Bool × (List Int)) → Option ((List shape_Node × List Int × Int × Bool) ⊕ (List shape_Node × List Int × Int × Bool × List Int))) (v : Int × Int × (List shape_Node) × (List Int) × Int × Bool × (List Int)) : Option ((List shape_Node × List Int × Int × Bool) ⊕ (List shape_Node × List Int × Int × Bool × List Int)) := s_scope_walker_tree_v577_3 N (SS_scope_walker_tree_v577 N) c.2.1 (fun u0 u1 u2 u3 u4 u5 u6 => next (u0, u1, u2, u3, u4, u5, u6)) v.1 v.2.1 v.2.2.1 v.2.2.2.1 v.2.2.2.2.1 v.2.2.2.2.2.1 v.2.2.2.2.2.2
abbrev r_scope_walker_tree_v577_1 (N : Nat) : (Int × Int × Int × Int × (List UInt8) × (List UInt8) × (List pred_Node)) × (Int × Int × (List shape_Node) × (List Int) × Int × Bool × (List Int)) → Option ((List shape_Node × List Int × Int × Bool) ⊕ (List shape_Node × List Int × Int × Bool × List Int)) := fun a => loopV (f_scope_walker_tree_v577_1 N a.1) N a.2
def C_scope_Walk : Con tb := .p 18 [true, true] (.c (.el tb_ok 9) (.c (.r 0) .n)) (fun N a => s_scope_Walk N a.1 a.2.1) (R := List Int) (.p (.r 0)) (fun _ => rfl)
def C_scope_id_L1_v579 : Con tb := .m 143 [true, false] (.c (.el tb_ok 5) (.c (.ptr 0 0) .n)) (.c (.c .s .n) .n) .n (fun N a => s_scope_id_L1_v579 N a.1.1 a.2.1.1.1) (R := Bool × List UInt8) (.m (R := Bool × List UInt8) .b (.c (.c .s .n) .n) .n (fun z => (z.1, z.2.1.1.1)) (fun r => (r.1, ((r.2, ()), ()), ())) (fun _ => rfl))
def C_slices_IndexFunc_shape_Node_v289 : Con tb := .m 27 [true, false] (.c (.r 5) (.c (.fn 143 .n (.c (.ptr 0 0) .n)) .n)) (.c (.c .s .n) .n) .n (fun N a => s_slices_IndexFunc_shape_Node_v289 N a.1.1 a.2.1.1.1) (R := Int × List UInt8) (.m (R := Int × List UInt8) (.i .i64) (.c (.c .s .n) .n) .n (fun z => (z.1, z.2.1.1.1)) (fun r => (r.1, ((r.2, ()), ()), ())) (fun _ => rfl))
def q_slices_IndexFunc_shape_Node_v289_0 : LQ tb (((List shape_Node) × Int) × (Int × (List UInt8))) := (LQ.m [] [0, 1, 7, 8] (.c 0 (.r 5) (.c 1 (.fn 143 .n (.c (.ptr 0 0) .n)) (.c 7 (.i .i64) (.c 8 (.i .i64) .n)))) (.c (.c .s .n) .n) .n).re (fun a => ((a.1.1, a.1.2.2.1), (a.1.2.2.2.1, a.2.1.1.1))) (fun x => ((x.1.1, ((), (), ()), x.1.2, x.2.1, ()), ((x.2.2, ()), ()), ())) (fun _ => rfl)
def f_slices_IndexFunc_shape_Node_v289_0 (N : Nat) (c : (List shape_Node) × Int) (next : (Int × (List UInt8)) → Option (Int × List UInt8)) (v : Int × (List UInt8)) : Option (Int × List UInt8) := s_slices_IndexFunc_shape_Node_v289_1 N c.1 c.2 (fun u0 u1 => next (u0, u1)) v.1 v.2
abbrev r_slices_IndexFunc_shape_Node_v289_0 (N : Nat) : ((List shape_Node) × Int) × (Int × (List UInt8)) → Option (Int × List UInt8) := fun a => loopV (f_slices_IndexFunc_shape_Node_v289_0 N a.1) N a.2
def C_scope_id : Con tb := .s 101 [true, true] (.c (.r 5) (.c .s .n)) (fun N a => s_scope_id N a.1 a.2.1) (R := Int) (.p (.i .i64)) (fun _ => ⟨rfl, (by kernel_rfl)⟩)
def C_scope_kids : Con tb := .s 58 [true] (.c (.el tb_ok 5) .n) (fun N a => s_scope_kids N a.1) (R := Int) (.p (.i .i64)) (fun _ => ⟨rfl, (by kernel_rfl)⟩)
def C_scope_set_both : Con tb := .p 102 [true, true] (.c (.el tb_ok 10) (.c (.el tb_ok 10) .n)) (fun N a => s_scope_set_both N a.1 a.2.1) (R := A40 Bool) (.p (.el tb_ok 10)) (fun _ => rfl)
def q_scope_set_both_0 : LQ tb (((A40 Bool) × (A40 Bool)) × (Int × (A40 Bool))) := (LQ.m [] [2, 3, 4, 6] (.c 2 (.ptr 0 0) (.c 3 (.ptr 1 0) (.c 4 (.ptr 2 0) (.c 6 (.i .i64) .n)))) (.c (.a tb_ok 10 .n) (.c (.a tb_ok 10 .n) (.c (.a tb_ok 10 .n) .n))) .n).re (fun a => ((a.2.1.2.1.1, a.2.1.2.2.1.1), (a.1.2.2.2.1, a.2.1.1.1))) (fun x => (((), (), (), x.2.1, ()), ((x.2.2, ()), (x.1.1, ()), (x.1.2, ()), ()), ())) (fun _ => rfl)
def f_scope_set_both_0 (N : Nat) (c : (A40 Bool) × (A40 Bool)) (next : (Int × (A40 Bool)) → Option (A40 Bool)) (v : Int × (A40 Bool)) : Option (A40 Bool) := s_scope_set_both_1 N c.1 (fun u0 u1 => next (u0, u1)) v.1 v.2
abbrev r_scope_set_both_0 (N : Nat) : ((A40 Bool) × (A40 Bool)) × (Int × (A40 Bool)) → Option (A40 Bool) := fun a => loopV (f_scope_set_both_0 N a.1) N a.2
def C_scope_flow_tree_v461 : Con tb := .m 53 [false, true, true] (.c (.ptr 0 0) (.c (.i .i64) (.c (.el tb_ok 10) .n))) (.c (.c (.r 5) (.a tb_ok 12 .n)) .n) .n (fun N a => s_scope_flow_tree_v461 N a.1.2.1 a.1.2.2.1 a.2.1.1.1 a.2.1.1.2.1) (R := A40 Bool × Int × List shape_Node × A40 (A40 Bool)) (.m (R := A40 Bool × Int × List shape_Node × A40 (A40 Bool)) (.tu (.c (.el tb_ok 10) (.o (.i .i64)))) (.c (.c (.r 5) (.a tb_ok 12 .n)) .n) .n (fun z => (z.1.1, z.1.2, z.2.1.1.1, z.2.1.1.2.1)) (fun r => ((r.1, r.2.1), ((r.2.2.1, r.2.2.2, ()), ()), ())) (fun _ => rfl))
def q_scope_flow_tree_v461_0 : LQ tb ((Int × (A40 Bool) × (A40 Bool) × Int × Int × Int × Int × (List UInt8) × (List UInt8) × (List pred_Node)) × (Int × Int × (List shape_Node) × (A40 (A40 Bool)) × (A40 Bool))) := (LQ.m [] [0, 5, 6, 8, 9, 10, 48, 49] (.c 0 (.ptr 0 0) (.c 5 (.ptr 1 0) (.c 6 (.ptr 2 0) (.c 8 (.ptr 3 0) (.c 9 (.ptr 4 0) (.c 10 (.i .i64) (.c 48 (.i .i64) (.c 49 (.i .i64) .n)))))))) (.c (.c (.r 5) (.a tb_ok 12 .n)) (.c (.a tb_ok 10 .n) (.c (.a tb_ok 10 .n) (.c (.c (.i .u8) (.c (.i .i64) (.c (.i .i64) (.c (.i .i64) (.c .s (.c .s (.c (.r 4) .n))))))) (.c (.a tb_ok 10 .n) .n))))) .n).re (fun a => ((a.1.2.2.2.2.2.2.1, a.2.1.2.1.1, a.2.1.2.2.1.1, a.2.1.2.2.2.1.1, a.2.1.2.2.2.1.2.1, a.2.1.2.2.2.1.2.2.1, a.2.1.2.2.2.1.2.2.2.1, a.2.1.2.2.2.1.2.2.2.2.1, a.2.1.2.2.2.1.2.2.2.2.2.1, a.2.1.2.2.2.1.2.2.2.2.2.2.1), (a.1.2.2.2.2.2.1, a.1.2.2.2.2.2.2.2.1, a.2.1.1.1, a.2.1.1.2.1, a.2.1.2.2.2.2.1.1))) (fun x => (((), (), (), (), (), x.2.1, x.1.1, x.2.2.1, ()), ((x.2.2.2.1, x.2.2.2.2.1, ()), (x.1.2.1, ()), (x.1.2.2.1, ()), (x.1.2.2.2.1, x.1.2.2.2.2.1, x.1.2.2.2.2.2.1, x.1.2.2.2.2.2.2.1, x.1.2.2.2.2.2.2.2.1, x.1.2.2.2.2.2.2.2.2.1, x.1.2.2.2.2.2.2.2.2.2, ()), (x.2.2.2.2.2, ()), ()), ())) (fun _ => rfl)
def f_scope_flow_tree_v461_0 (N : Nat) (c : Int × (A40 Bool) × (A40 Bool) × Int × Int × Int × Int × (List UInt8) × (List UInt8) × (List pred_Node)) (next : (Int × Int × (List shape_Node) × (A40 (A40 Bool)) × (A40 Bool)) → Option (A40 Bool × Int × List shape_Node × A40 (A40 Bool))) (v : Int × Int × (List shape_Node) × (A40 (A40 Bool)) × (A40 Bool)) : Option (A40 Bool × Int × List shape_Node × A40 (A40 Bool)) := s_scope_flow_tree_v461_1 N (SS_scope_flow_tree_v461 N) c.1 c.2.1 c.2.2.2.1 c.2.2.2.2.2.1 (fun u0 u1 u2 u3 u4 => next (u0, u1, u2, u3, u4)) v.1 v.2.1 v.2.2.1 v.2.2.2.1 v.2.2.2.2
abbrev r_scope_flow_tree_v461_0 (N : Nat) : (Int × (A40 Bool) × (A40 Bool) × Int × Int × Int × Int × (List UInt8) × (List UInt8) × (List pred_Node)) × (Int × Int × (List shape_Node) × (A40 (A40 Bool)) × (A40 Bool)) → Option (A40 Bool × Int × List shape_Node × A40 (A40 Bool)) := fun a => loopV (f_scope_flow_tree_v461_0 N a.1) N a.2
def C_scope_sure : Con tb := .m 26 [true] (.c (.r 5) .n) .n .n (fun N a => s_scope_sure N a.1.1) (R := List shape_Node × A40 (A40 Bool)) (.m (R := List shape_Node × A40 (A40 Bool)) (.ptr 0 0) (.c (.c (.r 5) (.a tb_ok 12 .n)) .n) .n (fun z => (z.2.1.1.1, z.2.1.1.2.1)) (fun r => ((), ((r.1, r.2, ()), ()), ())) (fun _ => rfl))
def C_slices_Sort_string_v986 : Con tb := .m 39 [false] (.c (.own 0) .n) .n (.l 1 .n) (fun N a => s_slices_Sort_string_v986 N a.2.2.1) (R := List (List UInt8)) (.m (R := List (List UInt8)) (.tu .n) .n (.l 1 .n) (fun z => z.2.2.1) (fun r => ((), (), r, ())) (fun _ => rfl))
def C_scope_Bound : Con tb := .p 15 [true, true] (.c (.el tb_ok 9) (.c (.i .i64) .n)) (fun N a => s_scope_Bound N a.1 a.2.1) (R := List (List UInt8)) (.p (.r 1)) (fun _ => rfl)
def q_scope_Bound_0 : LQ tb (((A40 Bool) × (List shape_Node) × Int × (List UInt8) × Int) × (Int × (List (List UInt8)))) := (LQ.m [(5, none, 1)] [2, 5, 38, 39] (.c 2 (.ptr 0 0) (.c 5 (.own 0) (.c 38 (.ag (.a tb_ok 10 .n)) (.c 39 (.i .i64) .n)))) (.c (.c (.r 5) (.c (.i .i64) (.c .s (.c (.i .u8) .n)))) .n) (.l 1 .n)).re (fun a => ((a.1.2.2.1.1, a.2.1.1.1, a.2.1.1.2.1, a.2.1.1.2.2.1, a.2.1.1.2.2.2.1), (a.1.2.2.2.1, a.2.2.1))) (fun x => (((), (), (x.1.1, ()), x.2.1, ()), ((x.1.2.1, x.1.2.2.1, x.1.2.2.2.1, x.1.2.2.2.2, ()), ()), x.2.2, ())) (fun _ => rfl)
def f_scope_Bound_0 (N : Nat) (c : (A40 Bool) × (List shape_Node) × Int × (List UInt8) × Int) (next : (Int × (List (List UInt8))) → Option (List (List UInt8))) (v : Int × (List (List UInt8))) : Option (List (List UInt8)) := s_scope_Bound_1 N c.1 c.2.1 (fun u0 u1 => next (u0, u1)) v.1 v.2
abbrev r_scope_Bound_0 (N : Nat) : ((A40 Bool) × (List shape_Node) × Int × (List UInt8) × Int) × (Int × (List (List UInt8))) → Option (List (List UInt8)) := fun a => loopV (f_scope_Bound_0 N a.1) N a.2
def C_law15_ScopeSure : Con tb := .s 5 [true, true] (.c (.el tb_ok 9) (.c (.r 0) .n)) (fun N a => s_law15_ScopeSure N a.1 a.2.1) (R := Bool) (.p .b) (fun _ => ⟨rfl, (by kernel_rfl)⟩)
def q_law15_ScopeSure_0 : LQ tb (((List Int) × (List shape_Node) × Int × (List UInt8) × Int) × (Int)) := (LQ.m [] [5, 6, 7] (.c 5 (.ptr 0 0) (.c 6 (.r 0) (.c 7 (.i .i64) .n))) (.c (.c (.r 5) (.c (.i .i64) (.c .s (.c (.i .u8) .n)))) .n) .n).re (fun a => ((a.1.2.1, a.2.1.1.1, a.2.1.1.2.1, a.2.1.1.2.2.1, a.2.1.1.2.2.2.1), a.1.2.2.1)) (fun x => (((), x.1.1, x.2, ()), ((x.1.2.1, x.1.2.2.1, x.1.2.2.2.1, x.1.2.2.2.2, ()), ()), ())) (fun _ => rfl)
def q_law15_ScopeSure_2 : LQ tb (((List Int) × Int × (List (List UInt8)) × (List shape_Node) × Int × (List UInt8) × Int) × (Int)) := (LQ.m [] [5, 6, 7, 8, 9] (.c 5 (.ptr 0 0) (.c 6 (.r 0) (.c 7 (.i .i64) (.c 8 (.r 1) (.c 9 (.i .i64) .n))))) (.c (.c (.r 5) (.c (.i .i64) (.c .s (.c (.i .u8) .n)))) .n) .n).re (fun a => ((a.1.2.1, a.1.2.2.1, a.1.2.2.2.1, a.2.1.1.1, a.2.1.1.2.1, a.2.1.1.2.2.1, a.2.1.1.2.2.2.1), a.1.2.2.2.2.1)) (fun x => (((), x.1.1, x.1.2.1, x.1.2.2.1, x.2, ()), ((x.1.2.2.2.1, x.1.2.2.2.2.1, x.1.2.2.2.2.2.1, x.1.2.2.2.2.2.2, ()), ()), ())) (fun _ => rfl)
def q_law15_ScopeSure_4 : LQ tb (((List Int) × Int × (List (List UInt8)) × Int × (List shape_Node) × Int × (List UInt8) × Int) × (Bool × Int)) := (LQ.m [] [5, 6, 7, 8, 9, 10, 11] (.c 5 (.ptr 0 0) (.c 6 (.r 0) (.c 7 (.i .i64) (.c 8 (.r 1) (.c 9 (.i .i64) (.c 10 .b (.c 11 (.i .i64) .n))))))) (.c (.c (.r 5) (.c (.i .i64) (.c .s (.c (.i .u8) .n)))) .n) .n).re (fun a => ((a.1.2.1, a.1.2.2.1, a.1.2.2.2.1, a.1.2.2.2.2.1, a.2.1.1.1, a.2.1.1.2.1, a.2.1.1.2.2.1, a.2.1.1.2.2.2.1), (a.1.2.2.2.2.2.1, a.1.2.2.2.2.2.2.1))) (fun x => (((), x.1.1, x.1.2.1, x.1.2.2.1, x.1.2.2.2.1, x.2.1, x.2.2, ()), ((x.1.2.2.2.2.1, x.1.2.2.2.2.2.1, x.1.2.2.2.2.2.2.1, x.1.2.2.2.2.2.2.2, ()), ()), ())) (fun _ => rfl)
def f_law15_ScopeSure_4 (N : Nat) (next2 : ((List Int) × Int × (List (List UInt8)) × (List shape_Node) × Int × (List UInt8) × Int) × (Int) → Option Bool) (c : (List Int) × Int × (List (List UInt8)) × Int × (List shape_Node) × Int × (List UInt8) × Int) (next : (Bool × Int) → Option Bool) (v : Bool × Int) : Option Bool := s_law15_ScopeSure_3 N c.1 c.2.1 c.2.2.1 c.2.2.2.1 c.2.2.2.2.1 (fun u0 => next2 ((c.1, c.2.1, c.2.2.1, c.2.2.2.2.1, c.2.2.2.2.2.1, c.2.2.2.2.2.2.1, c.2.2.2.2.2.2.2), u0)) (fun u0 u1 => next (u0, u1)) v.1 v.2
abbrev r_law15_ScopeSure_4 (N : Nat) (next2 : ((List Int) × Int × (List (List UInt8)) × (List shape_Node) × Int × (List UInt8) × Int) × (Int) → Option Bool) : ((List Int) × Int × (List (List UInt8)) × Int × (List shape_Node) × Int × (List UInt8) × Int) × (Bool × Int) → Option Bool := fun a => loopV (f_law15_ScopeSure_4 N next2 a.1) N a.2
def f_law15_ScopeSure_2 (N : Nat) (next0 : ((List Int) × (List shape_Node) × Int × (List UInt8) × Int) × (Int) → Option Bool) (c : (List Int) × Int × (List (List UInt8)) × (List shape_Node) × Int × (List UInt8) × Int) (next : Int → Option Bool) (v : Int) : Option Bool := s_law15_ScopeSure_2 N c.1 c.2.1 c.2.2.1 c.2.2.2.1 (fun u0 => next0 ((c.1, c.2.2.2.1, c.2.2.2.2.1, c.2.2.2.2.2.1, c.2.2.2.2.2.2), u0)) (fun u0 => next u0) v
abbrev r_law15_ScopeSure_2 (N : Nat) (next0 : ((List Int) × (List shape_Node) × Int × (List UInt8) × Int) × (Int) → Option Bool) : ((List Int) × Int × (List (List UInt8)) × (List shape_Node) × Int × (List UInt8) × Int) × (Int) → Option Bool := fun a => loopV (f_law15_ScopeSure_2 N next0 a.1) N a.2
def f_law15_ScopeSure_0 (N : Nat) (c : (List Int) × (List shape_Node) × Int × (List UInt8) × Int) (next : Int → Option Bool) (v : Int) : Option Bool := s_law15_ScopeSure_1 N c.1 c.2.1 c.2.2.1 c.2.2.2.1 c.2.2.2.2 (fun u0 => next u0) v
abbrev r_law15_ScopeSure_0 (N : Nat) : ((List Int) × (List shape_Node) × Int × (List UInt8) × Int) × (Int) → Option Bool := fun a => loopV (f_law15_ScopeSure_0 N a.1) N a.2
end
end
end Go.Proofs.YtbioikdfpfafaaaGreatDoor.W
