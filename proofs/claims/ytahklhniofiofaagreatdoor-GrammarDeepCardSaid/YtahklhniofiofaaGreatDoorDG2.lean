/- fault.New, walked. No premise beyond what each theorem says. -/
import Derived.Test.YtahklhniofiofaaGreatDoorDG1
import Derived.WalkKit
import Derived.LaidEql
import Derived.Stop.Asserts
import Derived.RowKitTokens
import Derived.Lib.Walk
import Derived.Lib.SliceRun
import Derived.Lib.AppendZerosOnto
import Derived.WalkLawsBesides
import Derived.Deep.RegionHeld3
import Derived.Shelf.Strings.BuilderK
import Derived.Test.YtahklhniofiofaaGreatDoorDA3
import Derived.BigCall
import Derived.Laws.BytesString
import Derived.Laws.IdiomStrings
import Derived.Lib.SmallJoins
import Derived.Laws.Bits64b
import Derived.Lib.UnsafeStr
set_option linter.all false
set_option linter.unusedSimpArgs false
set_option linter.unusedVariables false
namespace Go.Proofs.YtahklhniofiofaaGreatDoor.D
open Go
open Go.Proofs.Tryz
set_option maxRecDepth 1000000
set_option linter.unusedSimpArgs false
set_option linter.unusedVariables false
noncomputable section
theorem hm : prog.follows .mixedOrders = true := by kernel_rfl
def eA0 (x : lex_Token) : AV := .agg [.v (.int .u8 x.Kind), .v (.int .i64 x.At), .v (.string (bs x.Text)), .v (.int .u8 x.Val.Kind), .v (.int .i64 x.Val.N), .v (.int .u64 x.Val.Bits), .v (.string (bs x.Val.Text))]
def eA1 (x : value_Value) : AV := .agg [.v (.int .u8 x.Kind), .v (.int .i64 x.N), .v (.int .u64 x.Bits), .v (.string (bs x.Text))]
def eA2 (x : Int) : AV := .v (.int .u8 x)
def eA3 (x : pred_Node) : AV := .agg [.v (.int .u8 x.Kind), .v (.int .u8 x.Op), .v (.string (bs x.Var)), .v (.string (bs x.Name)), .v (.int .u8 x.Val.Kind), .v (.int .i64 x.Val.N), .v (.int .u64 x.Val.Bits), .v (.string (bs x.Val.Text))]
def eA4 (x : List pred_Node) : AV := .sl 8 (List.map eA3 x)
def eA5 (x : shape_Node) : AV := .agg [.v (.int .u8 x.Kind), .v (.int .i64 x.Kids), .v (.int .i64 x.Lo), .v (.int .i64 x.Hi), .v (.string (bs x.Var)), .v (.string (bs x.Type_)), .sl 8 (List.map eA3 x.Test)]
def eA6 (x : shape_Pattern) : AV := .agg [.sl 7 (List.map eA5 x.Body), .v (.int .i64 x.Within), .v (.string (bs x.By)), .v (.int .u8 x.Mode)]
def eA7 (x : ref12_State) : AV := .agg [.sl 7 (List.map eA0 x.L), .v (.int .i64 x.At), .v (.int .i64 x.End), .v (.int .i64 x.F.E), .v (.int .i64 x.F.At)]
def eA8 (x : List UInt8) : AV := .v (.string (bs x))
def eA9 (x : fault_Fault) : AV := .agg [.v (.int .i64 x.E), .v (.int .i64 x.At)]
abbrev T : Nat → Type
  | 0 => lex_Token
  | 1 => value_Value
  | 2 => Int
  | 3 => pred_Node
  | 4 => List pred_Node
  | 5 => shape_Node
  | 6 => shape_Pattern
  | 7 => ref12_State
  | 8 => List UInt8
  | 9 => fault_Fault
  | _ => Unit
def enc : (i : Nat) → T i → List (BV T)
  | 0 => fun (x : lex_Token) => [.int .u8 x.Kind, .int .i64 x.At, .str x.Text, .int .u8 x.Val.Kind, .int .i64 x.Val.N, .int .u64 x.Val.Bits, .str x.Val.Text]
  | 1 => fun (x : value_Value) => [.int .u8 x.Kind, .int .i64 x.N, .int .u64 x.Bits, .str x.Text]
  | 2 => fun (x : Int) => [.int .u8 x]
  | 3 => fun (x : pred_Node) => [.int .u8 x.Kind, .int .u8 x.Op, .str x.Var, .str x.Name, .int .u8 x.Val.Kind, .int .i64 x.Val.N, .int .u64 x.Val.Bits, .str x.Val.Text]
  | 4 => fun (x : List pred_Node) => [.sl 3 x]
  | 5 => fun (x : shape_Node) => [.int .u8 x.Kind, .int .i64 x.Kids, .int .i64 x.Lo, .int .i64 x.Hi, .str x.Var, .str x.Type_, .sl 3 x.Test]
  | 6 => fun (x : shape_Pattern) => [.sl 5 x.Body, .int .i64 x.Within, .str x.By, .int .u8 x.Mode]
  | 7 => fun (x : ref12_State) => [.sl 0 x.L, .int .i64 x.At, .int .i64 x.End, .int .i64 x.F.E, .int .i64 x.F.At]
  | 8 => fun (x : List UInt8) => [.str x]
  | 9 => fun (x : fault_Fault) => [.int .i64 x.E, .int .i64 x.At]
  | _ => fun _ => []
def dec0 : List (BV T) → Option lex_Token := P1 (asInt .u8) fun a0 => P1 (asInt .i64) fun a1 => P1 asStr fun a2 => P1 (asInt .u8) fun a3 => P1 (asInt .i64) fun a4 => P1 (asInt .u64) fun a5 => P1 asStr fun a6 => P0 (⟨a0, a1, a2, ⟨a3, a4, a5, a6⟩⟩ : lex_Token)
def dec1 : List (BV T) → Option value_Value := P1 (asInt .u8) fun a0 => P1 (asInt .i64) fun a1 => P1 (asInt .u64) fun a2 => P1 asStr fun a3 => P0 (⟨a0, a1, a2, a3⟩ : value_Value)
def dec2 : List (BV T) → Option Int := P1 (asInt .u8) fun a0 => P0 (a0 : Int)
def dec3 : List (BV T) → Option pred_Node := P1 (asInt .u8) fun a0 => P1 (asInt .u8) fun a1 => P1 asStr fun a2 => P1 asStr fun a3 => P1 (asInt .u8) fun a4 => P1 (asInt .i64) fun a5 => P1 (asInt .u64) fun a6 => P1 asStr fun a7 => P0 (⟨a0, a1, a2, a3, ⟨a4, a5, a6, a7⟩⟩ : pred_Node)
def dec4 : List (BV T) → Option (List pred_Node) := P1 (asRow 3) fun a0 => P0 (a0 : List pred_Node)
def dec5 : List (BV T) → Option shape_Node := P1 (asInt .u8) fun a0 => P1 (asInt .i64) fun a1 => P1 (asInt .i64) fun a2 => P1 (asInt .i64) fun a3 => P1 asStr fun a4 => P1 asStr fun a5 => P1 (asRow 3) fun a6 => P0 (⟨a0, a1, a2, a3, a4, a5, a6⟩ : shape_Node)
def dec6 : List (BV T) → Option shape_Pattern := P1 (asRow 5) fun a0 => P1 (asInt .i64) fun a1 => P1 asStr fun a2 => P1 (asInt .u8) fun a3 => P0 (⟨a0, a1, a2, a3⟩ : shape_Pattern)
def dec7 : List (BV T) → Option ref12_State := P1 (asRow 0) fun a0 => P1 (asInt .i64) fun a1 => P1 (asInt .i64) fun a2 => P1 (asInt .i64) fun a3 => P1 (asInt .i64) fun a4 => P0 (⟨a0, a1, a2, ⟨a3, a4⟩⟩ : ref12_State)
def dec8 : List (BV T) → Option (List UInt8) := P1 asStr fun a0 => P0 (a0 : List UInt8)
def dec9 : List (BV T) → Option fault_Fault := P1 (asInt .i64) fun a0 => P1 (asInt .i64) fun a1 => P0 (⟨a0, a1⟩ : fault_Fault)
def dec : (i : Nat) → List (BV T) → Option (T i)
  | 0 => dec0
  | 1 => dec1
  | 2 => dec2
  | 3 => dec3
  | 4 => dec4
  | 5 => dec5
  | 6 => dec6
  | 7 => dec7
  | 8 => dec8
  | 9 => dec9
  | _ => fun _ => none
def eA : (i : Nat) → T i → AV
  | 0 => eA0
  | 1 => eA1
  | 2 => eA2
  | 3 => eA3
  | 4 => eA4
  | 5 => eA5
  | 6 => eA6
  | 7 => eA7
  | 8 => eA8
  | 9 => eA9
  | _ => fun _ => .agg []
def tb : Tb T := ⟨fun i => [7, 4, 1, 8, 1, 7, 4, 5, 1, 2].getD i 0, fun i => [true, true, false, true, false, true, true, true, false, true].getD i true, eA, enc, dec⟩
def sbf (k : Nat) : Option (List UInt8 → (i : Nat) × List (T i)) := match Nat.beq k 1 with
  | true => some fun s => ⟨2, bints s⟩
  | false => none
theorem sb_ok (k : Nat) (f : List UInt8 → (i : Nat) × List (T i)) (s : List UInt8) (h : sbf k = some f) : k = 1 ∧ tb.k (f s).1 = 1 ∧ (f s).2.map (tb.eA (f s).1) = s.map byteV := by
  unfold sbf at h
  split at h
  · rename_i hk; cases h; exact ⟨Nat.eq_of_beq_eq_true hk, rfl, (byteV_map s).symm⟩
  · cases h
def bof : (i : Nat) → List (T i) → Option (List UInt8)
  | 2 => fun (l : List Int) => some (byS l)
  | _ => fun _ => none
theorem bo_ok (i : Nat) (l : List (T i)) (s : List UInt8) (h : bof i l = some s) : tb.k i = 1 ∧ ∃ m : List Int, l.map (tb.eA i) = m.map u8V ∧ s = byS m := by
  unfold bof at h
  split at h
  · cases h; exact ⟨rfl, _, rfl, rfl⟩
  · cases h
theorem dec0_ok (cs : List (BV T)) (x : lex_Token) (h : dec0 cs = some x) : LWs (BV.avs tb cs) (eA0 x).cells := by
  obtain ⟨c0, r0, a0, rfl, h0, h⟩ := P1_some h
  obtain ⟨c1, r1, a1, rfl, h1, h⟩ := P1_some h
  obtain ⟨c2, r2, a2, rfl, h2, h⟩ := P1_some h
  obtain ⟨c3, r3, a3, rfl, h3, h⟩ := P1_some h
  obtain ⟨c4, r4, a4, rfl, h4, h⟩ := P1_some h
  obtain ⟨c5, r5, a5, rfl, h5, h⟩ := P1_some h
  obtain ⟨c6, r6, a6, rfl, h6, h⟩ := P1_some h
  obtain ⟨rfl, rfl⟩ := P0_some h
  exact .cons (asInt_lw h0) (.cons (asInt_lw h1) (.cons (asStr_lw h2) (.cons (asInt_lw h3) (.cons (asInt_lw h4) (.cons (asInt_lw h5) (.cons (asStr_lw h6) (.nil)))))))
theorem dec1_ok (cs : List (BV T)) (x : value_Value) (h : dec1 cs = some x) : LWs (BV.avs tb cs) (eA1 x).cells := by
  obtain ⟨c0, r0, a0, rfl, h0, h⟩ := P1_some h
  obtain ⟨c1, r1, a1, rfl, h1, h⟩ := P1_some h
  obtain ⟨c2, r2, a2, rfl, h2, h⟩ := P1_some h
  obtain ⟨c3, r3, a3, rfl, h3, h⟩ := P1_some h
  obtain ⟨rfl, rfl⟩ := P0_some h
  exact .cons (asInt_lw h0) (.cons (asInt_lw h1) (.cons (asInt_lw h2) (.cons (asStr_lw h3) (.nil))))
theorem dec2_ok (cs : List (BV T)) (x : Int) (h : dec2 cs = some x) : LWs (BV.avs tb cs) (eA2 x).cells := by
  obtain ⟨c0, r0, a0, rfl, h0, h⟩ := P1_some h
  obtain ⟨rfl, rfl⟩ := P0_some h
  exact .cons (asInt_lw h0) (.nil)
theorem dec3_ok (cs : List (BV T)) (x : pred_Node) (h : dec3 cs = some x) : LWs (BV.avs tb cs) (eA3 x).cells := by
  obtain ⟨c0, r0, a0, rfl, h0, h⟩ := P1_some h
  obtain ⟨c1, r1, a1, rfl, h1, h⟩ := P1_some h
  obtain ⟨c2, r2, a2, rfl, h2, h⟩ := P1_some h
  obtain ⟨c3, r3, a3, rfl, h3, h⟩ := P1_some h
  obtain ⟨c4, r4, a4, rfl, h4, h⟩ := P1_some h
  obtain ⟨c5, r5, a5, rfl, h5, h⟩ := P1_some h
  obtain ⟨c6, r6, a6, rfl, h6, h⟩ := P1_some h
  obtain ⟨c7, r7, a7, rfl, h7, h⟩ := P1_some h
  obtain ⟨rfl, rfl⟩ := P0_some h
  exact .cons (asInt_lw h0) (.cons (asInt_lw h1) (.cons (asStr_lw h2) (.cons (asStr_lw h3) (.cons (asInt_lw h4) (.cons (asInt_lw h5) (.cons (asInt_lw h6) (.cons (asStr_lw h7) (.nil))))))))
theorem dec4_ok (cs : List (BV T)) (x : List pred_Node) (h : dec4 cs = some x) : LWs (BV.avs tb cs) (eA4 x).cells := by
  obtain ⟨c0, r0, a0, rfl, h0, h⟩ := P1_some h
  obtain ⟨rfl, rfl⟩ := P0_some h
  exact .cons (asRow_ok h0) (.nil)
theorem dec5_ok (cs : List (BV T)) (x : shape_Node) (h : dec5 cs = some x) : LWs (BV.avs tb cs) (eA5 x).cells := by
  obtain ⟨c0, r0, a0, rfl, h0, h⟩ := P1_some h
  obtain ⟨c1, r1, a1, rfl, h1, h⟩ := P1_some h
  obtain ⟨c2, r2, a2, rfl, h2, h⟩ := P1_some h
  obtain ⟨c3, r3, a3, rfl, h3, h⟩ := P1_some h
  obtain ⟨c4, r4, a4, rfl, h4, h⟩ := P1_some h
  obtain ⟨c5, r5, a5, rfl, h5, h⟩ := P1_some h
  obtain ⟨c6, r6, a6, rfl, h6, h⟩ := P1_some h
  obtain ⟨rfl, rfl⟩ := P0_some h
  exact .cons (asInt_lw h0) (.cons (asInt_lw h1) (.cons (asInt_lw h2) (.cons (asInt_lw h3) (.cons (asStr_lw h4) (.cons (asStr_lw h5) (.cons (asRow_ok h6) (.nil)))))))
theorem dec6_ok (cs : List (BV T)) (x : shape_Pattern) (h : dec6 cs = some x) : LWs (BV.avs tb cs) (eA6 x).cells := by
  obtain ⟨c0, r0, a0, rfl, h0, h⟩ := P1_some h
  obtain ⟨c1, r1, a1, rfl, h1, h⟩ := P1_some h
  obtain ⟨c2, r2, a2, rfl, h2, h⟩ := P1_some h
  obtain ⟨c3, r3, a3, rfl, h3, h⟩ := P1_some h
  obtain ⟨rfl, rfl⟩ := P0_some h
  exact .cons (asRow_ok h0) (.cons (asInt_lw h1) (.cons (asStr_lw h2) (.cons (asInt_lw h3) (.nil))))
theorem dec7_ok (cs : List (BV T)) (x : ref12_State) (h : dec7 cs = some x) : LWs (BV.avs tb cs) (eA7 x).cells := by
  obtain ⟨c0, r0, a0, rfl, h0, h⟩ := P1_some h
  obtain ⟨c1, r1, a1, rfl, h1, h⟩ := P1_some h
  obtain ⟨c2, r2, a2, rfl, h2, h⟩ := P1_some h
  obtain ⟨c3, r3, a3, rfl, h3, h⟩ := P1_some h
  obtain ⟨c4, r4, a4, rfl, h4, h⟩ := P1_some h
  obtain ⟨rfl, rfl⟩ := P0_some h
  exact .cons (asRow_ok h0) (.cons (asInt_lw h1) (.cons (asInt_lw h2) (.cons (asInt_lw h3) (.cons (asInt_lw h4) (.nil)))))
theorem dec8_ok (cs : List (BV T)) (x : List UInt8) (h : dec8 cs = some x) : LWs (BV.avs tb cs) (eA8 x).cells := by
  obtain ⟨c0, r0, a0, rfl, h0, h⟩ := P1_some h
  obtain ⟨rfl, rfl⟩ := P0_some h
  exact .cons (asStr_lw h0) (.nil)
theorem dec9_ok (cs : List (BV T)) (x : fault_Fault) (h : dec9 cs = some x) : LWs (BV.avs tb cs) (eA9 x).cells := by
  obtain ⟨c0, r0, a0, rfl, h0, h⟩ := P1_some h
  obtain ⟨c1, r1, a1, rfl, h1, h⟩ := P1_some h
  obtain ⟨rfl, rfl⟩ := P0_some h
  exact .cons (asInt_lw h0) (.cons (asInt_lw h1) (.nil))
theorem tb_ok : tb.Ok where
  enc := fun i x => match i with | 0 => (by kernel_rfl) | 1 => (by kernel_rfl) | 2 => (by kernel_rfl) | 3 => (by kernel_rfl) | 4 => (by kernel_rfl) | 5 => (by kernel_rfl) | 6 => (by kernel_rfl) | 7 => (by kernel_rfl) | 8 => (by kernel_rfl) | 9 => (by kernel_rfl) | n + 10 => (by kernel_rfl)
  len := fun i x => match i with | 0 => (by kernel_rfl) | 1 => (by kernel_rfl) | 2 => (by kernel_rfl) | 3 => (by kernel_rfl) | 4 => (by kernel_rfl) | 5 => (by kernel_rfl) | 6 => (by kernel_rfl) | 7 => (by kernel_rfl) | 8 => (by kernel_rfl) | 9 => (by kernel_rfl) | n + 10 => (by kernel_rfl)
  one := fun i x => match i with | 0 => (by kernel_rfl) | 1 => (by kernel_rfl) | 2 => (by kernel_rfl) | 3 => (by kernel_rfl) | 4 => (by kernel_rfl) | 5 => (by kernel_rfl) | 6 => (by kernel_rfl) | 7 => (by kernel_rfl) | 8 => (by kernel_rfl) | 9 => (by kernel_rfl) | n + 10 => (by kernel_rfl)
  dat := fun i x => match i with | 0 => (by kernel_rfl) | 1 => (by kernel_rfl) | 2 => (by kernel_rfl) | 3 => (by kernel_rfl) | 4 => (by kernel_rfl) | 5 => (by kernel_rfl) | 6 => (by kernel_rfl) | 7 => (by kernel_rfl) | 8 => (by kernel_rfl) | 9 => (by kernel_rfl) | n + 10 => (by kernel_rfl)
  sg := fun i x h => match i with | 0 => (by cases h) | 1 => (by cases h) | 2 => (by kernel_rfl) | 3 => (by cases h) | 4 => (by kernel_rfl) | 5 => (by cases h) | 6 => (by cases h) | 7 => (by cases h) | 8 => (by kernel_rfl) | 9 => (by cases h) | n + 10 => (by cases h)
  ag := fun i x h => match i with | 0 => (by kernel_rfl) | 1 => (by kernel_rfl) | 2 => (by cases h) | 3 => (by kernel_rfl) | 4 => (by cases h) | 5 => (by kernel_rfl) | 6 => (by kernel_rfl) | 7 => (by kernel_rfl) | 8 => (by cases h) | 9 => (by kernel_rfl) | n + 10 => (by kernel_rfl)
  dec := fun i => match i with | 0 => dec0_ok | 1 => dec1_ok | 2 => dec2_ok | 3 => dec3_ok | 4 => dec4_ok | 5 => dec5_ok | 6 => dec6_ok | 7 => dec7_ok | 8 => dec8_ok | 9 => dec9_ok | n + 10 => fun cs x h => (by cases h)
def dropD : Code → Code
  | .seq a (.seq _ r) => .seq a r
  | c => c
def fB22 : Func := { f22 with body := f22.body.map dropD }
def C_fault_New : Con tb := .p 23 [true, true] (.c (.i .i64) (.c (.i .i64) .n)) (fun N a => s_fault_New N a.1 a.2.1) (R := Unit ⊕ (Int × Int)) (.or (.p .ni) (.m (R := Int × Int) (.ifc 84 (.dp (.c (.i .i64) (.c (.i .i64) .n)))) .n .n (fun z => (z.1.1, z.1.2.1)) (fun r => ((r.1, r.2, ()), (), ())) (fun _ => rfl))) (fun r => by rcases r with _ | _ <;> exact rfl)
def C_lex_small : Con tb := .s 86 [true] (.c (.i .u8) .n) (fun N a => s_lex_small N a.1) (R := Bool) (.p .b) (fun _ => ⟨rfl, (by kernel_rfl)⟩)
def C_lex_scanner_fail_v359 : Con tb := .m 89 [false, true] (.c (.ptr 0 0) (.c (.i .i64) .n)) (.c (.c .s (.c (.i .i64) (.c (.own 0) .n))) .n) (.l 0 .n) (fun N a => s_lex_scanner_fail_v359 N a.1.2.1 a.2.1.1.1 a.2.1.1.2.1 a.2.2.1) (R := (List UInt8 × Int × List lex_Token) ⊕ (Int × Int × List UInt8 × Int × List lex_Token)) (.or (.m (R := List UInt8 × Int × List lex_Token) .ni (.c (.c .s (.c (.i .i64) (.c (.own 0) .n))) .n) (.l 0 .n) (fun z => (z.2.1.1.1, z.2.1.1.2.1, z.2.2.1)) (fun r => ((), ((r.1, r.2.1, (), ()), ()), r.2.2, ())) (fun _ => rfl)) (.m (R := Int × Int × List UInt8 × Int × List lex_Token) (.ifc 84 (.dp (.c (.i .i64) (.c (.i .i64) .n)))) (.c (.c .s (.c (.i .i64) (.c (.own 0) .n))) .n) (.l 0 .n) (fun z => (z.1.1, z.1.2.1, z.2.1.1.1, z.2.1.1.2.1, z.2.2.1)) (fun r => ((r.1, r.2.1, ()), ((r.2.2.1, r.2.2.2.1, (), ()), ()), r.2.2.2.2, ())) (fun _ => rfl)))
def C_lex_digit : Con tb := .s 87 [true] (.c (.i .u8) .n) (fun N a => s_lex_digit N a.1) (R := Bool) (.p .b) (fun _ => ⟨rfl, (by kernel_rfl)⟩)
def C_lex_tail : Con tb := .s 120 [true] (.c (.i .u8) .n) (fun N a => s_lex_tail N a.1) (R := Bool) (.p .b) (fun _ => ⟨rfl, (by kernel_rfl)⟩)
def C_lex_scanner_length_v869 : Con tb := .m 119 [false, false] (.c (.ptr 0 0) (.c (.fn 120 .n .n) .n)) (.c (.c .s (.c (.i .i64) (.c (.own 0) .n))) .n) (.l 0 .n) (fun N a => s_lex_scanner_length_v869 N a.2.1.1.1 a.2.1.1.2.1 a.2.2.1) (R := Int × List UInt8 × Int × List lex_Token) (.m (R := Int × List UInt8 × Int × List lex_Token) (.i .i64) (.c (.c .s (.c (.i .i64) (.c (.own 0) .n))) .n) (.l 0 .n) (fun z => (z.1, z.2.1.1.1, z.2.1.1.2.1, z.2.2.1)) (fun r => (r.1, ((r.2.1, r.2.2.1, (), ()), ()), r.2.2.2, ())) (fun _ => rfl))
def q_lex_scanner_length_v869_0 : LQ tb (((List UInt8) × Int × (List lex_Token)) × (Int)) := (LQ.m [] [0, 1, 5] (.c 0 (.ptr 0 0) (.c 1 (.fn 120 .n .n) (.c 5 (.i .i64) .n))) (.c (.c .s (.c (.i .i64) (.c (.own 0) .n))) .n) (.l 0 .n)).re (fun a => ((a.2.1.1.1, a.2.1.1.2.1, a.2.2.1), a.1.2.2.1)) (fun x => (((), ((), ()), x.2, ()), ((x.1.1, x.1.2.1, (), ()), ()), x.1.2.2, ())) (fun _ => rfl)
def f_lex_scanner_length_v869_0 (N : Nat) (c : (List UInt8) × Int × (List lex_Token)) (next : Int → Option (Int × List UInt8 × Int × List lex_Token)) (v : Int) : Option (Int × List UInt8 × Int × List lex_Token) := s_lex_scanner_length_v869_1 N c.1 c.2.1 c.2.2 (fun u0 => next u0) v
abbrev r_lex_scanner_length_v869_0 (N : Nat) : ((List UInt8) × Int × (List lex_Token)) × (Int) → Option (Int × List UInt8 × Int × List lex_Token) := fun a => loopV (f_lex_scanner_length_v869_0 N a.1) N a.2
def C_value_OfFlag : Con tb := .s 122 [true] (.c .b .n) (fun N a => s_value_OfFlag N a.1) (R := value_Value) (.p (.el tb_ok 1)) (fun _ => ⟨rfl, (by kernel_rfl)⟩)
def C_lex_scanner_put_v420 : Con tb := .m 121 [false, true, true, true, true] (.c (.ptr 0 0) (.c (.i .i64) (.c (.i .u8) (.c .s (.c (.el tb_ok 1) .n))))) (.c (.c .s (.c (.i .i64) (.c (.own 0) .n))) .n) (.l 0 .n) (fun N a => s_lex_scanner_put_v420 N a.1.2.1 a.1.2.2.1 a.1.2.2.2.1 a.1.2.2.2.2.1 a.2.1.1.1 a.2.1.1.2.1 a.2.2.1) (R := List UInt8 × Int × List lex_Token) (.m (R := List UInt8 × Int × List lex_Token) .ni (.c (.c .s (.c (.i .i64) (.c (.own 1) .n))) .n) (.d (.l 0 .n)) (fun z => (z.2.1.1.1, z.2.1.1.2.1, z.2.2.1)) (fun r => ((), ((r.1, r.2.1, (), ()), ()), r.2.2, ())) (fun _ => rfl))
def C_schema_Reserved : Con tb := .s 83 [true] (.c .s .n) (fun N a => s_schema_Reserved N a.1) (R := Bool) (.p .b) (fun _ => ⟨rfl, (by kernel_rfl)⟩)
def C_lex_scanner_word_v558 : Con tb := .m 90 [false] (.c (.ptr 0 0) .n) (.c (.c .s (.c (.i .i64) (.c (.own 0) .n))) .n) (.l 0 .n) (fun N a => s_lex_scanner_word_v558 N a.2.1.1.1 a.2.1.1.2.1 a.2.2.1) (R := (List UInt8 × Int × List lex_Token) ⊕ (List UInt8 × Int × List lex_Token) ⊕ (Int × Int × List UInt8 × Int × List lex_Token)) (.or (.m (R := List UInt8 × Int × List lex_Token) .ni (.c (.c .s (.c (.i .i64) (.c (.own 1) .n))) .n) (.d (.l 0 .n)) (fun z => (z.2.1.1.1, z.2.1.1.2.1, z.2.2.1)) (fun r => ((), ((r.1, r.2.1, (), ()), ()), r.2.2, ())) (fun _ => rfl)) (.or (.m (R := List UInt8 × Int × List lex_Token) .ni (.c (.c .s (.c (.i .i64) (.c (.own 0) .n))) .n) (.l 0 .n) (fun z => (z.2.1.1.1, z.2.1.1.2.1, z.2.2.1)) (fun r => ((), ((r.1, r.2.1, (), ()), ()), r.2.2, ())) (fun _ => rfl)) (.m (R := Int × Int × List UInt8 × Int × List lex_Token) (.ifc 84 (.dp (.c (.i .i64) (.c (.i .i64) .n)))) (.c (.c .s (.c (.i .i64) (.c (.own 0) .n))) .n) (.l 0 .n) (fun z => (z.1.1, z.1.2.1, z.2.1.1.1, z.2.1.1.2.1, z.2.2.1)) (fun r => ((r.1, r.2.1, ()), ((r.2.2.1, r.2.2.2.1, (), ()), ()), r.2.2.2.2, ())) (fun _ => rfl))))
def C_lex_scanner_length_v416 : Con tb := .m 119 [false, false] (.c (.ptr 0 0) (.c (.fn 87 .n .n) .n)) (.c (.c .s (.c (.i .i64) (.c (.own 0) .n))) .n) (.l 0 .n) (fun N a => s_lex_scanner_length_v416 N a.2.1.1.1 a.2.1.1.2.1 a.2.2.1) (R := Int × List UInt8 × Int × List lex_Token) (.m (R := Int × List UInt8 × Int × List lex_Token) (.i .i64) (.c (.c .s (.c (.i .i64) (.c (.own 0) .n))) .n) (.l 0 .n) (fun z => (z.1, z.2.1.1.1, z.2.1.1.2.1, z.2.2.1)) (fun r => (r.1, ((r.2.1, r.2.2.1, (), ()), ()), r.2.2.2, ())) (fun _ => rfl))
def q_lex_scanner_length_v416_0 : LQ tb (((List UInt8) × Int × (List lex_Token)) × (Int)) := (LQ.m [] [0, 1, 5] (.c 0 (.ptr 0 0) (.c 1 (.fn 87 .n .n) (.c 5 (.i .i64) .n))) (.c (.c .s (.c (.i .i64) (.c (.own 0) .n))) .n) (.l 0 .n)).re (fun a => ((a.2.1.1.1, a.2.1.1.2.1, a.2.2.1), a.1.2.2.1)) (fun x => (((), ((), ()), x.2, ()), ((x.1.1, x.1.2.1, (), ()), ()), x.1.2.2, ())) (fun _ => rfl)
def f_lex_scanner_length_v416_0 (N : Nat) (c : (List UInt8) × Int × (List lex_Token)) (next : Int → Option (Int × List UInt8 × Int × List lex_Token)) (v : Int) : Option (Int × List UInt8 × Int × List lex_Token) := s_lex_scanner_length_v416_1 N c.1 c.2.1 c.2.2 (fun u0 => next u0) v
abbrev r_lex_scanner_length_v416_0 (N : Nat) : ((List UInt8) × Int × (List lex_Token)) × (Int) → Option (Int × List UInt8 × Int × List lex_Token) := fun a => loopV (f_lex_scanner_length_v416_0 N a.1) N a.2
def C_value_OfInt : Con tb := .s 78 [true] (.c (.i .i64) .n) (fun N a => s_value_OfInt N a.1) (R := value_Value) (.p (.el tb_ok 1)) (fun _ => ⟨rfl, (by kernel_rfl)⟩)
def C_lex_scanner_number_v558 : Con tb := .m 91 [false] (.c (.ptr 0 0) .n) (.c (.c .s (.c (.i .i64) (.c (.own 0) .n))) .n) (.l 0 .n) (fun N a => s_lex_scanner_number_v558 N a.2.1.1.1 a.2.1.1.2.1 a.2.2.1) (R := (List UInt8 × Int × List lex_Token) ⊕ (Int × Int × List UInt8 × Int × List lex_Token) ⊕ (List UInt8 × Int × List lex_Token)) (.or (.m (R := List UInt8 × Int × List lex_Token) .ni (.c (.c .s (.c (.i .i64) (.c (.own 0) .n))) .n) (.l 0 .n) (fun z => (z.2.1.1.1, z.2.1.1.2.1, z.2.2.1)) (fun r => ((), ((r.1, r.2.1, (), ()), ()), r.2.2, ())) (fun _ => rfl)) (.or (.m (R := Int × Int × List UInt8 × Int × List lex_Token) (.ifc 84 (.dp (.c (.i .i64) (.c (.i .i64) .n)))) (.c (.c .s (.c (.i .i64) (.c (.own 0) .n))) .n) (.l 0 .n) (fun z => (z.1.1, z.1.2.1, z.2.1.1.1, z.2.1.1.2.1, z.2.2.1)) (fun r => ((r.1, r.2.1, ()), ((r.2.2.1, r.2.2.2.1, (), ()), ()), r.2.2.2.2, ())) (fun _ => rfl)) (.m (R := List UInt8 × Int × List lex_Token) .ni (.c (.c .s (.c (.i .i64) (.c (.own 1) .n))) .n) (.d (.l 0 .n)) (fun z => (z.2.1.1.1, z.2.1.1.2.1, z.2.2.1)) (fun r => ((), ((r.1, r.2.1, (), ()), ()), r.2.2, ())) (fun _ => rfl))))
def q_lex_scanner_number_v558_0 : LQ tb ((Int × Int × (List UInt8) × Int × (List lex_Token)) × (Int × Int)) := (LQ.m [] [0, 3, 4, 25, 26] (.c 0 (.ptr 0 0) (.c 3 (.i .i64) (.c 4 (.i .i64) (.c 25 (.i .i64) (.c 26 (.i .i64) .n))))) (.c (.c .s (.c (.i .i64) (.c (.own 0) .n))) .n) (.l 0 .n)).re (fun a => ((a.1.2.1, a.1.2.2.2.1, a.2.1.1.1, a.2.1.1.2.1, a.2.2.1), (a.1.2.2.1, a.1.2.2.2.2.1))) (fun x => (((), x.1.1, x.2.1, x.1.2.1, x.2.2, ()), ((x.1.2.2.1, x.1.2.2.2.1, (), ()), ()), x.1.2.2.2.2, ())) (fun _ => rfl)
def f_lex_scanner_number_v558_0 (N : Nat) (c : Int × Int × (List UInt8) × Int × (List lex_Token)) (next : (Int × Int) → Option ((List UInt8 × Int × List lex_Token) ⊕ (Int × Int × List UInt8 × Int × List lex_Token) ⊕ (List UInt8 × Int × List lex_Token))) (v : Int × Int) : Option ((List UInt8 × Int × List lex_Token) ⊕ (Int × Int × List UInt8 × Int × List lex_Token) ⊕ (List UInt8 × Int × List lex_Token)) := s_lex_scanner_number_v558_1 N c.1 c.2.1 c.2.2.1 c.2.2.2.1 c.2.2.2.2 (fun u0 u1 => next (u0, u1)) v.1 v.2
abbrev r_lex_scanner_number_v558_0 (N : Nat) : (Int × Int × (List UInt8) × Int × (List lex_Token)) × (Int × Int) → Option ((List UInt8 × Int × List lex_Token) ⊕ (Int × Int × List UInt8 × Int × List lex_Token) ⊕ (List UInt8 × Int × List lex_Token)) := fun a => loopV (f_lex_scanner_number_v558_0 N a.1) N a.2
def C_stringslite_IndexByte : Con tb := .s 118 [true, true] (.c .s (.c (.i .u8) .n)) (fun N a => s_stringslite_IndexByte N a.1 a.2.1) (R := Int) (.p (.i .i64)) (fun _ => ⟨rfl, (by kernel_rfl)⟩)
def C_strings_IndexByte : Con tb := .s 88 [true, true] (.c .s (.c (.i .u8) .n)) (fun N a => s_strings_IndexByte N a.1 a.2.1) (R := Int) (.p (.i .i64)) (fun _ => ⟨rfl, (by kernel_rfl)⟩)
def C_lex_base16 : Con tb := .s 123 [true] (.c (.i .u8) .n) (fun N a => s_lex_base16 N a.1) (R := Int) (.p (.i .i64)) (fun _ => ⟨rfl, (by kernel_rfl)⟩)
def C_real_of : Con tb := .s 149 [true] (.c (.i .u64) .n) (fun N a => s_real_of N a.1) (R := Nat) (.p (.f .f64)) (fun _ => ⟨rfl, (by kernel_rfl)⟩)
def C_real_Clean : Con tb := .s 124 [true] (.c (.i .u64) .n) (fun N a => s_real_Clean N a.1) (R := Int) (.p (.i .u64)) (fun _ => ⟨rfl, (by kernel_rfl)⟩)
def C_value_OfReal : Con tb := .s 125 [true] (.c (.i .u64) .n) (fun N a => s_value_OfReal N a.1) (R := value_Value) (.p (.el tb_ok 1)) (fun _ => ⟨rfl, (by kernel_rfl)⟩)
def C_lex_scanner_double_v558 : Con tb := .m 92 [false] (.c (.ptr 0 0) .n) (.c (.c .s (.c (.i .i64) (.c (.own 0) .n))) .n) (.l 0 .n) (fun N a => s_lex_scanner_double_v558 N a.2.1.1.1 a.2.1.1.2.1 a.2.2.1) (R := (List UInt8 × Int × List lex_Token) ⊕ (Int × Int × List UInt8 × Int × List lex_Token) ⊕ (List UInt8 × Int × List lex_Token)) (.or (.m (R := List UInt8 × Int × List lex_Token) .ni (.c (.c .s (.c (.i .i64) (.c (.own 0) .n))) .n) (.l 0 .n) (fun z => (z.2.1.1.1, z.2.1.1.2.1, z.2.2.1)) (fun r => ((), ((r.1, r.2.1, (), ()), ()), r.2.2, ())) (fun _ => rfl)) (.or (.m (R := Int × Int × List UInt8 × Int × List lex_Token) (.ifc 84 (.dp (.c (.i .i64) (.c (.i .i64) .n)))) (.c (.c .s (.c (.i .i64) (.c (.own 0) .n))) .n) (.l 0 .n) (fun z => (z.1.1, z.1.2.1, z.2.1.1.1, z.2.1.1.2.1, z.2.2.1)) (fun r => ((r.1, r.2.1, ()), ((r.2.2.1, r.2.2.2.1, (), ()), ()), r.2.2.2.2, ())) (fun _ => rfl)) (.m (R := List UInt8 × Int × List lex_Token) .ni (.c (.c .s (.c (.i .i64) (.c (.own 1) .n))) .n) (.d (.l 0 .n)) (fun z => (z.2.1.1.1, z.2.1.1.2.1, z.2.2.1)) (fun r => ((), ((r.1, r.2.1, (), ()), ()), r.2.2, ())) (fun _ => rfl))))
def q_lex_scanner_double_v558_0 : LQ tb (((List UInt8) × Int × (List lex_Token)) × (Int × Int)) := (LQ.m [] [0, 3, 19] (.c 0 (.ptr 0 0) (.c 3 (.i .u64) (.c 19 (.i .i64) .n))) (.c (.c .s (.c (.i .i64) (.c (.own 0) .n))) .n) (.l 0 .n)).re (fun a => ((a.2.1.1.1, a.2.1.1.2.1, a.2.2.1), (a.1.2.1, a.1.2.2.1))) (fun x => (((), x.2.1, x.2.2, ()), ((x.1.1, x.1.2.1, (), ()), ()), x.1.2.2, ())) (fun _ => rfl)
def f_lex_scanner_double_v558_0 (N : Nat) (c : (List UInt8) × Int × (List lex_Token)) (next : (Int × Int) → Option ((List UInt8 × Int × List lex_Token) ⊕ (Int × Int × List UInt8 × Int × List lex_Token) ⊕ (List UInt8 × Int × List lex_Token))) (v : Int × Int) : Option ((List UInt8 × Int × List lex_Token) ⊕ (Int × Int × List UInt8 × Int × List lex_Token) ⊕ (List UInt8 × Int × List lex_Token)) := s_lex_scanner_double_v558_1 N c.1 c.2.1 c.2.2 (fun u0 u1 => next (u0, u1)) v.1 v.2
abbrev r_lex_scanner_double_v558_0 (N : Nat) : ((List UInt8) × Int × (List lex_Token)) × (Int × Int) → Option ((List UInt8 × Int × List lex_Token) ⊕ (Int × Int × List UInt8 × Int × List lex_Token) ⊕ (List UInt8 × Int × List lex_Token)) := fun a => loopV (f_lex_scanner_double_v558_0 N a.1) N a.2
def C_lex_scanner_escaped_v359 : Con tb := .m 126 [false, true] (.c (.ptr 0 0) (.c (.i .i64) .n)) (.c (.c .s (.c (.i .i64) (.c (.own 0) .n))) .n) (.l 0 .n) (fun N a => s_lex_scanner_escaped_v359 N a.1.2.1 a.2.1.1.1 a.2.1.1.2.1 a.2.2.1) (R := Int × Bool × List UInt8 × Int × List lex_Token) (.m (R := Int × Bool × List UInt8 × Int × List lex_Token) (.tu (.c (.i .u8) (.o .b))) (.c (.c .s (.c (.i .i64) (.c (.own 0) .n))) .n) (.l 0 .n) (fun z => (z.1.1, z.1.2, z.2.1.1.1, z.2.1.1.2.1, z.2.2.1)) (fun r => ((r.1, r.2.1), ((r.2.2.1, r.2.2.2.1, (), ()), ()), r.2.2.2.2, ())) (fun _ => rfl))
def C_value_OfText : Con tb := .s 127 [true] (.c .s .n) (fun N a => s_value_OfText N a.1) (R := value_Value) (.p (.el tb_ok 1)) (fun _ => ⟨rfl, (by kernel_rfl)⟩)
def C_lex_scanner_quoted_v558 : Con tb := .m 93 [false] (.c (.ptr 0 0) .n) (.c (.c .s (.c (.i .i64) (.c (.own 0) .n))) .n) (.l 0 .n) (fun N a => s_lex_scanner_quoted_v558 N a.2.1.1.1 a.2.1.1.2.1 a.2.2.1) (R := (List UInt8 × Int × List lex_Token) ⊕ (Int × Int × List UInt8 × Int × List lex_Token) ⊕ (List UInt8 × Int × List lex_Token)) (.or (.m (R := List UInt8 × Int × List lex_Token) .ni (.c (.c .s (.c (.i .i64) (.c (.own 0) .n))) .n) (.l 0 .n) (fun z => (z.2.1.1.1, z.2.1.1.2.1, z.2.2.1)) (fun r => ((), ((r.1, r.2.1, (), ()), ()), r.2.2, ())) (fun _ => rfl)) (.or (.m (R := Int × Int × List UInt8 × Int × List lex_Token) (.ifc 84 (.dp (.c (.i .i64) (.c (.i .i64) .n)))) (.c (.c .s (.c (.i .i64) (.c (.own 0) .n))) .n) (.l 0 .n) (fun z => (z.1.1, z.1.2.1, z.2.1.1.1, z.2.1.1.2.1, z.2.2.1)) (fun r => ((r.1, r.2.1, ()), ((r.2.2.1, r.2.2.2.1, (), ()), ()), r.2.2.2.2, ())) (fun _ => rfl)) (.m (R := List UInt8 × Int × List lex_Token) .ni (.c (.c .s (.c (.i .i64) (.c (.own 1) .n))) .n) (.d (.l 0 .n)) (fun z => (z.2.1.1.1, z.2.1.1.2.1, z.2.2.1)) (fun r => ((), ((r.1, r.2.1, (), ()), ()), r.2.2, ())) (fun _ => rfl))))
def q_lex_scanner_quoted_v558_0 : LQ tb ((Unit) × (Int × (List UInt8) × Int × (List lex_Token) × (List Int))) := (LQ.m [(3, none, 2)] [0, 3, 4, 5] (.c 0 (.ptr 0 0) (.c 3 (.own 1) (.c 4 (.i .i64) (.c 5 (.lb false) .n)))) (.c (.c .s (.c (.i .i64) (.c (.own 0) .n))) .n) (.l 0 (.l 2 .n))).re (fun a => ((), (a.1.2.2.1, a.2.1.1.1, a.2.1.1.2.1, a.2.2.1, a.2.2.2.1))) (fun x => (((), (), x.2.1, (), ()), ((x.2.2.1, x.2.2.2.1, (), ()), ()), x.2.2.2.2.1, x.2.2.2.2.2, ())) (fun _ => rfl)
def f_lex_scanner_quoted_v558_0 (N : Nat) (c : Unit) (next : (Int × (List UInt8) × Int × (List lex_Token) × (List Int)) → Option ((List UInt8 × Int × List lex_Token) ⊕ (Int × Int × List UInt8 × Int × List lex_Token) ⊕ (List UInt8 × Int × List lex_Token))) (v : Int × (List UInt8) × Int × (List lex_Token) × (List Int)) : Option ((List UInt8 × Int × List lex_Token) ⊕ (Int × Int × List UInt8 × Int × List lex_Token) ⊕ (List UInt8 × Int × List lex_Token)) := s_lex_scanner_quoted_v558_1 N (fun u0 u1 u2 u3 u4 => next (u0, u1, u2, u3, u4)) v.1 v.2.1 v.2.2.1 v.2.2.2.1 v.2.2.2.2
abbrev r_lex_scanner_quoted_v558_0 (N : Nat) : (Unit) × (Int × (List UInt8) × Int × (List lex_Token) × (List Int)) → Option ((List UInt8 × Int × List lex_Token) ⊕ (Int × Int × List UInt8 × Int × List lex_Token) ⊕ (List UInt8 × Int × List lex_Token)) := fun a => loopV (f_lex_scanner_quoted_v558_0 N a.1) N a.2
def C_lex_scanner_sign_v558 : Con tb := .m 94 [false] (.c (.ptr 0 0) .n) (.c (.c .s (.c (.i .i64) (.c (.own 0) .n))) .n) (.l 0 .n) (fun N a => s_lex_scanner_sign_v558 N a.2.1.1.1 a.2.1.1.2.1 a.2.2.1) (R := List UInt8 × Int × List lex_Token) (.m (R := List UInt8 × Int × List lex_Token) .ni (.c (.c .s (.c (.i .i64) (.c (.own 1) .n))) .n) (.d (.l 0 .n)) (fun z => (z.2.1.1.1, z.2.1.1.2.1, z.2.2.1)) (fun r => ((), ((r.1, r.2.1, (), ()), ()), r.2.2, ())) (fun _ => rfl))
def C_lex_scanner_token_v558 : Con tb := .m 51 [false] (.c (.ptr 0 0) .n) (.c (.c .s (.c (.i .i64) (.c (.own 0) .n))) .n) (.l 0 .n) (fun N a => s_lex_scanner_token_v558 N a.2.1.1.1 a.2.1.1.2.1 a.2.2.1) (R := (List UInt8 × Int × List lex_Token) ⊕ (Int × Int × List UInt8 × Int × List lex_Token) ⊕ (List UInt8 × Int × List lex_Token)) (.or (.m (R := List UInt8 × Int × List lex_Token) .ni (.c (.c .s (.c (.i .i64) (.c (.own 0) .n))) .n) (.l 0 .n) (fun z => (z.2.1.1.1, z.2.1.1.2.1, z.2.2.1)) (fun r => ((), ((r.1, r.2.1, (), ()), ()), r.2.2, ())) (fun _ => rfl)) (.or (.m (R := Int × Int × List UInt8 × Int × List lex_Token) (.ifc 84 (.dp (.c (.i .i64) (.c (.i .i64) .n)))) (.c (.c .s (.c (.i .i64) (.c (.own 0) .n))) .n) (.l 0 .n) (fun z => (z.1.1, z.1.2.1, z.2.1.1.1, z.2.1.1.2.1, z.2.2.1)) (fun r => ((r.1, r.2.1, ()), ((r.2.2.1, r.2.2.2.1, (), ()), ()), r.2.2.2.2, ())) (fun _ => rfl)) (.m (R := List UInt8 × Int × List lex_Token) .ni (.c (.c .s (.c (.i .i64) (.c (.own 1) .n))) .n) (.d (.l 0 .n)) (fun z => (z.2.1.1.1, z.2.1.1.2.1, z.2.2.1)) (fun r => ((), ((r.1, r.2.1, (), ()), ()), r.2.2, ())) (fun _ => rfl))))
def C_lex_Scan : Con tb := .p 21 [true] (.c .s .n) (fun N a => s_lex_Scan N a.1) (R := (List lex_Token) ⊕ (List lex_Token × Int × Int)) (.or (.m (R := List lex_Token) (.tu (.c (.r 0) (.c .ni .n))) .n .n (fun z => z.1.1) (fun r => ((r, (), ()), (), ())) (fun _ => rfl)) (.m (R := List lex_Token × Int × Int) (.tu (.c (.r 0) (.o (.ifc 84 (.dp (.c (.i .i64) (.c (.i .i64) .n))))))) .n .n (fun z => (z.1.1, z.1.2.1, z.1.2.2.1)) (fun r => ((r.1, r.2.1, r.2.2, ()), (), ())) (fun _ => rfl))) (fun r => by rcases r with _ | _ <;> exact rfl)
def q_lex_Scan_0 : LQ tb (((List UInt8)) × ((List UInt8) × Int × (List lex_Token))) := (LQ.m [(4, some 2, 0)] [0, 4] (.c 0 .s (.c 4 (.ptr 0 0) .n)) (.c (.c .s (.c (.i .i64) (.c (.own 0) .n))) .n) (.l 0 .n)).re (fun a => (a.1.1, (a.2.1.1.1, a.2.1.1.2.1, a.2.2.1))) (fun x => ((x.1, (), ()), ((x.2.1, x.2.2.1, (), ()), ()), x.2.2.2, ())) (fun _ => rfl)
def f_lex_Scan_0 (N : Nat) (c : (List UInt8)) (next : ((List UInt8) × Int × (List lex_Token)) → Option ((List lex_Token) ⊕ (List lex_Token × Int × Int))) (v : (List UInt8) × Int × (List lex_Token)) : Option ((List lex_Token) ⊕ (List lex_Token × Int × Int)) := s_lex_Scan_1 N c (fun u0 u1 u2 => next (u0, u1, u2)) v.1 v.2.1 v.2.2
abbrev r_lex_Scan_0 (N : Nat) : ((List UInt8)) × ((List UInt8) × Int × (List lex_Token)) → Option ((List lex_Token) ⊕ (List lex_Token × Int × Int)) := fun a => loopV (f_lex_Scan_0 N a.1) N a.2
def C_grammar_reader_peek_v368 : Con tb := .m 97 [false, true, true] (.c (.ptr 0 0) (.c (.i .u8) (.c .s .n))) (.c (.c (.r 0) (.c (.i .i64) (.c (.i .i64) .n))) .n) .n (fun N a => s_grammar_reader_peek_v368 N a.1.2.1 a.1.2.2.1 a.2.1.1.1 a.2.1.1.2.1 a.2.1.1.2.2.1) (R := Bool × List lex_Token × Int × Int) (.m (R := Bool × List lex_Token × Int × Int) .b (.c (.c (.r 0) (.c (.i .i64) (.c (.i .i64) .n))) .n) .n (fun z => (z.1, z.2.1.1.1, z.2.1.1.2.1, z.2.1.1.2.2.1)) (fun r => (r.1, ((r.2.1, r.2.2.1, r.2.2.2, ()), ()), ())) (fun _ => rfl))
def C_grammar_reader_eat_v368 : Con tb := .m 56 [false, true, true] (.c (.ptr 0 0) (.c (.i .u8) (.c .s .n))) (.c (.c (.r 0) (.c (.i .i64) (.c (.i .i64) .n))) .n) .n (fun N a => s_grammar_reader_eat_v368 N a.1.2.1 a.1.2.2.1 a.2.1.1.1 a.2.1.1.2.1 a.2.1.1.2.2.1) (R := Bool × List lex_Token × Int × Int) (.m (R := Bool × List lex_Token × Int × Int) .b (.c (.c (.r 0) (.c (.i .i64) (.c (.i .i64) .n))) .n) .n (fun z => (z.1, z.2.1.1.1, z.2.1.1.2.1, z.2.1.1.2.2.1)) (fun r => (r.1, ((r.2.1, r.2.2.1, r.2.2.2, ()), ()), ())) (fun _ => rfl))
def C_grammar_stop_n : Con tb := .s 98 [false] (.c .ni .n) (fun N a => s_grammar_stop_n N) (R := Unit) (.p (.tu .n)) (fun _ => ⟨rfl, (by kernel_rfl)⟩)
def C_grammar_stop_f : Con tb := .p 98 [false] (.c (.ifc 84 (.dp (.c (.i .i64) (.c (.i .i64) .n)))) .n) (fun N a => s_grammar_stop_f N a.1.1 a.1.2.1) (R := Int × Int) (.m (R := Int × Int) (.ifc 16777300 (.dp (.c (.i .i64) (.c (.i .i64) .n)))) .n .n (fun z => (z.1.1, z.1.2.1)) (fun r => ((r.1, r.2, ()), (), ())) (fun _ => rfl)) (fun _ => rfl)
def C_grammar_reader_fail_v927 : Con tb := .m 59 [false, true] (.c (.ptr 0 0) (.c (.i .i64) .n)) (.c (.c (.r 0) (.c (.i .i64) (.c (.i .i64) .n))) .n) .n (fun N a => s_grammar_reader_fail_v927 N a.1.2.1 a.2.1.1.1 a.2.1.1.2.1 a.2.1.1.2.2.1) (R := (List lex_Token × Int × Int) ⊕ (Int × Int × List lex_Token × Int × Int)) (.or (.m (R := List lex_Token × Int × Int) (.tu .n) (.c (.c (.r 0) (.c (.i .i64) (.c (.i .i64) .n))) .n) .n (fun z => (z.2.1.1.1, z.2.1.1.2.1, z.2.1.1.2.2.1)) (fun r => ((), ((r.1, r.2.1, r.2.2, ()), ()), ())) (fun _ => rfl)) (.m (R := Int × Int × List lex_Token × Int × Int) (.ifc 16777300 (.dp (.c (.i .i64) (.c (.i .i64) .n)))) (.c (.c (.r 0) (.c (.i .i64) (.c (.i .i64) .n))) .n) .n (fun z => (z.1.1, z.1.2.1, z.2.1.1.1, z.2.1.1.2.1, z.2.1.1.2.2.1)) (fun r => ((r.1, r.2.1, ()), ((r.2.2.1, r.2.2.2.1, r.2.2.2.2, ()), ()), ())) (fun _ => rfl)))
def C_grammar_reader_name_v424 : Con tb := .m 57 [false] (.c (.ptr 0 0) .n) (.c (.c (.r 0) (.c (.i .i64) (.c (.i .i64) .n))) .n) .n (fun N a => s_grammar_reader_name_v424 N a.2.1.1.1 a.2.1.1.2.1 a.2.1.1.2.2.1) (R := (List UInt8 × List lex_Token × Int × Int) ⊕ (Int × Int × List lex_Token × Int × Int)) (.or (.m (R := List UInt8 × List lex_Token × Int × Int) .s (.c (.c (.r 0) (.c (.i .i64) (.c (.i .i64) .n))) .n) .n (fun z => (z.1, z.2.1.1.1, z.2.1.1.2.1, z.2.1.1.2.2.1)) (fun r => (r.1, ((r.2.1, r.2.2.1, r.2.2.2, ()), ()), ())) (fun _ => rfl)) (.m (R := Int × Int × List lex_Token × Int × Int) (.ifc 16777300 (.dp (.c (.i .i64) (.c (.i .i64) .n)))) (.c (.c (.r 0) (.c (.i .i64) (.c (.i .i64) .n))) .n) .n (fun z => (z.1.1, z.1.2.1, z.2.1.1.1, z.2.1.1.2.1, z.2.1.1.2.2.1)) (fun r => ((r.1, r.2.1, ()), ((r.2.2.1, r.2.2.2.1, r.2.2.2.2, ()), ()), ())) (fun _ => rfl)))
def C_grammar_reader_must_v368 : Con tb := .m 54 [false, true, true] (.c (.ptr 0 0) (.c (.i .u8) (.c .s .n))) (.c (.c (.r 0) (.c (.i .i64) (.c (.i .i64) .n))) .n) .n (fun N a => s_grammar_reader_must_v368 N a.1.2.1 a.1.2.2.1 a.2.1.1.1 a.2.1.1.2.1 a.2.1.1.2.2.1) (R := (List lex_Token × Int × Int) ⊕ (Int × Int × List lex_Token × Int × Int)) (.or (.m (R := List lex_Token × Int × Int) (.tu .n) (.c (.c (.r 0) (.c (.i .i64) (.c (.i .i64) .n))) .n) .n (fun z => (z.2.1.1.1, z.2.1.1.2.1, z.2.1.1.2.2.1)) (fun r => ((), ((r.1, r.2.1, r.2.2, ()), ()), ())) (fun _ => rfl)) (.m (R := Int × Int × List lex_Token × Int × Int) (.ifc 16777300 (.dp (.c (.i .i64) (.c (.i .i64) .n)))) (.c (.c (.r 0) (.c (.i .i64) (.c (.i .i64) .n))) .n) .n (fun z => (z.1.1, z.1.2.1, z.2.1.1.1, z.2.1.1.2.1, z.2.1.1.2.2.1)) (fun r => ((r.1, r.2.1, ()), ((r.2.2.1, r.2.2.2.1, r.2.2.2.2, ()), ()), ())) (fun _ => rfl)))
def C_predtext_parser_next_v424 : Con tb := .m 188 [false] (.c (.ptr 0 0) .n) (.c (.c (.r 0) (.c (.i .i64) (.c (.i .i64) .n))) .n) .n (fun N a => s_predtext_parser_next_v424 N a.2.1.1.1 a.2.1.1.2.1 a.2.1.1.2.2.1) (R := lex_Token × List lex_Token × Int × Int) (.m (R := lex_Token × List lex_Token × Int × Int) (.el tb_ok 0) (.c (.c (.r 0) (.c (.i .i64) (.c (.i .i64) .n))) .n) .n (fun z => (z.1, z.2.1.1.1, z.2.1.1.2.1, z.2.1.1.2.2.1)) (fun r => (r.1, ((r.2.1, r.2.2.1, r.2.2.2, ()), ()), ())) (fun _ => rfl))
def C_predtext_parser_place_v424 : Con tb := .m 175 [false] (.c (.ptr 0 0) .n) (.c (.c (.r 0) (.c (.i .i64) (.c (.i .i64) .n))) .n) .n (fun N a => s_predtext_parser_place_v424 N a.2.1.1.1 a.2.1.1.2.1 a.2.1.1.2.2.1) (R := Int × List lex_Token × Int × Int) (.m (R := Int × List lex_Token × Int × Int) (.i .i64) (.c (.c (.r 0) (.c (.i .i64) (.c (.i .i64) .n))) .n) .n (fun z => (z.1, z.2.1.1.1, z.2.1.1.2.1, z.2.1.1.2.2.1)) (fun r => (r.1, ((r.2.1, r.2.2.1, r.2.2.2, ()), ()), ())) (fun _ => rfl))
def C_predtext_parser_fail_v927 : Con tb := .m 195 [false, true] (.c (.ptr 0 0) (.c (.i .i64) .n)) (.c (.c (.r 0) (.c (.i .i64) (.c (.i .i64) .n))) .n) .n (fun N a => s_predtext_parser_fail_v927 N a.1.2.1 a.2.1.1.1 a.2.1.1.2.1 a.2.1.1.2.2.1) (R := Int × Int × List lex_Token × Int × Int) (.m (R := Int × Int × List lex_Token × Int × Int) (.ifc 16777468 (.ag (.c (.i .i64) (.c (.i .i64) .n)))) (.c (.c (.r 0) (.c (.i .i64) (.c (.i .i64) .n))) .n) .n (fun z => (z.1.1, z.1.2.1, z.2.1.1.1, z.2.1.1.2.1, z.2.1.1.2.2.1)) (fun r => ((r.1, r.2.1, ()), ((r.2.2.1, r.2.2.2.1, r.2.2.2.2, ()), ()), ())) (fun _ => rfl))
def C_predtext_parser_deeper_v927 : Con tb := .m 194 [false, true] (.c (.ptr 0 0) (.c (.i .i64) .n)) (.c (.c (.r 0) (.c (.i .i64) (.c (.i .i64) .n))) .n) .n (fun N a => s_predtext_parser_deeper_v927 N a.1.2.1 a.2.1.1.1 a.2.1.1.2.1 a.2.1.1.2.2.1) (R := (Int × Int × List lex_Token × Int × Int) ⊕ (List lex_Token × Int × Int)) (.or (.m (R := Int × Int × List lex_Token × Int × Int) (.ifc 16777468 (.ag (.c (.i .i64) (.c (.i .i64) .n)))) (.c (.c (.r 0) (.c (.i .i64) (.c (.i .i64) .n))) .n) .n (fun z => (z.1.1, z.1.2.1, z.2.1.1.1, z.2.1.1.2.1, z.2.1.1.2.2.1)) (fun r => ((r.1, r.2.1, ()), ((r.2.2.1, r.2.2.2.1, r.2.2.2.2, ()), ()), ())) (fun _ => rfl)) (.m (R := List lex_Token × Int × Int) (.tu .n) (.c (.c (.r 0) (.c (.i .i64) (.c (.i .i64) .n))) .n) .n (fun z => (z.2.1.1.1, z.2.1.1.2.1, z.2.1.1.2.2.1)) (fun r => ((), ((r.1, r.2.1, r.2.2, ()), ()), ())) (fun _ => rfl)))
def C_predtext_parser_eat_v368 : Con tb := .m 184 [false, true, true] (.c (.ptr 0 0) (.c (.i .u8) (.c .s .n))) (.c (.c (.r 0) (.c (.i .i64) (.c (.i .i64) .n))) .n) .n (fun N a => s_predtext_parser_eat_v368 N a.1.2.1 a.1.2.2.1 a.2.1.1.1 a.2.1.1.2.1 a.2.1.1.2.2.1) (R := Bool × List lex_Token × Int × Int) (.m (R := Bool × List lex_Token × Int × Int) .b (.c (.c (.r 0) (.c (.i .i64) (.c (.i .i64) .n))) .n) .n (fun z => (z.1, z.2.1.1.1, z.2.1.1.2.1, z.2.1.1.2.2.1)) (fun r => (r.1, ((r.2.1, r.2.2.1, r.2.2.2, ()), ()), ())) (fun _ => rfl))
def C_slices_Grow_pred_Node_own : Con tb := .m 199 [false, true] (.c .e (.c (.i .i64) .n)) .n .n (fun N a => s_slices_Grow_pred_Node_own N a.1.2.1) (R := List pred_Node) (.m (R := List pred_Node) (.own 0) .n (.l 3 .n) (fun z => z.2.2.1) (fun r => ((), (), r, ())) (fun _ => rfl))
def C_slices_Concat_pred_Node : Con tb := .p 189 [true] (.c (.r 4) .n) (fun N a => s_slices_Concat_pred_Node N a.1) (R := (List UInt8) ⊕ (List pred_Node)) (.or (.p (.ifc 16777225 .s)) (.p (.r 3))) (fun r => by rcases r with _ | _ <;> exact rfl)
def q_slices_Concat_pred_Node_0 : LQ tb (((List (List pred_Node)) × (List (List pred_Node)) × Int) × (Int × Int)) := (LQ.m [] [0, 3, 9, 10, 11] (.c 0 (.r 4) (.c 3 (.i .i64) (.c 9 (.r 4) (.c 10 (.i .i64) (.c 11 (.i .i64) .n))))) .n .n).re (fun a => ((a.1.1, a.1.2.2.1, a.1.2.2.2.1), (a.1.2.1, a.1.2.2.2.2.1))) (fun x => ((x.1.1, x.2.1, x.1.2.1, x.1.2.2, x.2.2, ()), (), ())) (fun _ => rfl)
def q_slices_Concat_pred_Node_2 : LQ tb (((List (List pred_Node)) × Int) × (Int × (List pred_Node))) := (LQ.m [] [6, 25, 26, 27] (.c 6 (.own 0) (.c 25 (.r 4) (.c 26 (.i .i64) (.c 27 (.i .i64) .n)))) .n (.l 3 .n)).re (fun a => ((a.1.2.1, a.1.2.2.1), (a.1.2.2.2.1, a.2.2.1))) (fun x => (((), x.1.1, x.1.2, x.2.1, ()), (), x.2.2, ())) (fun _ => rfl)
def f_slices_Concat_pred_Node_2 (N : Nat) (c : (List (List pred_Node)) × Int) (next : (Int × (List pred_Node)) → Option ((List UInt8) ⊕ (List pred_Node))) (v : Int × (List pred_Node)) : Option ((List UInt8) ⊕ (List pred_Node)) := s_slices_Concat_pred_Node_2 N c.1 c.2 (fun u0 u1 => next (u0, u1)) v.1 v.2
abbrev r_slices_Concat_pred_Node_2 (N : Nat) : ((List (List pred_Node)) × Int) × (Int × (List pred_Node)) → Option ((List UInt8) ⊕ (List pred_Node)) := fun a => loopV (f_slices_Concat_pred_Node_2 N a.1) N a.2
def f_slices_Concat_pred_Node_0 (N : Nat) (c : (List (List pred_Node)) × (List (List pred_Node)) × Int) (next : (Int × Int) → Option ((List UInt8) ⊕ (List pred_Node))) (v : Int × Int) : Option ((List UInt8) ⊕ (List pred_Node)) := s_slices_Concat_pred_Node_1 N c.1 c.2.1 c.2.2 (fun u0 u1 => next (u0, u1)) v.1 v.2
abbrev r_slices_Concat_pred_Node_0 (N : Nat) : ((List (List pred_Node)) × (List (List pred_Node)) × Int) × (Int × Int) → Option ((List UInt8) ⊕ (List pred_Node)) := fun a => loopV (f_slices_Concat_pred_Node_0 N a.1) N a.2
def C_predtext_above : Con tb := .p 185 [true, true] (.c (.el tb_ok 3) (.c (.r 4) .n)) (fun N a => s_predtext_above N a.1 a.2.1) (R := List pred_Node) (.p (.r 3)) (fun _ => rfl)
def C_predtext_parser_take_v128 : Con tb := .m 198 [false, true] (.c (.ptr 0 0) (.c (.i .u8) .n)) (.c (.c (.r 0) (.c (.i .i64) (.c (.i .i64) .n))) .n) .n (fun N a => s_predtext_parser_take_v128 N a.1.2.1 a.2.1.1.1 a.2.1.1.2.1 a.2.1.1.2.2.1) (R := (Int × Int × List lex_Token × Int × Int) ⊕ (lex_Token × List lex_Token × Int × Int)) (.or (.m (R := Int × Int × List lex_Token × Int × Int) (.ifc 16777468 (.ag (.c (.i .i64) (.c (.i .i64) .n)))) (.c (.c (.r 0) (.c (.i .i64) (.c (.i .i64) .n))) .n) .n (fun z => (z.1.1, z.1.2.1, z.2.1.1.1, z.2.1.1.2.1, z.2.1.1.2.2.1)) (fun r => ((r.1, r.2.1, ()), ((r.2.2.1, r.2.2.2.1, r.2.2.2.2, ()), ()), ())) (fun _ => rfl)) (.m (R := lex_Token × List lex_Token × Int × Int) (.el tb_ok 0) (.c (.c (.r 0) (.c (.i .i64) (.c (.i .i64) .n))) .n) .n (fun z => (z.1, z.2.1.1.1, z.2.1.1.2.1, z.2.1.1.2.2.1)) (fun r => (r.1, ((r.2.1, r.2.2.1, r.2.2.2, ()), ()), ())) (fun _ => rfl)))
def C_predtext_parser_unit_v424 : Con tb := .m 202 [false] (.c (.ptr 0 0) .n) (.c (.c (.r 0) (.c (.i .i64) (.c (.i .i64) .n))) .n) .n (fun N a => s_predtext_parser_unit_v424 N a.2.1.1.1 a.2.1.1.2.1 a.2.1.1.2.2.1) (R := (Int × Int × List lex_Token × Int × Int) ⊕ (List pred_Node × List lex_Token × Int × Int)) (.or (.m (R := Int × Int × List lex_Token × Int × Int) (.ifc 16777468 (.ag (.c (.i .i64) (.c (.i .i64) .n)))) (.c (.c (.r 0) (.c (.i .i64) (.c (.i .i64) .n))) .n) .n (fun z => (z.1.1, z.1.2.1, z.2.1.1.1, z.2.1.1.2.1, z.2.1.1.2.2.1)) (fun r => ((r.1, r.2.1, ()), ((r.2.2.1, r.2.2.2.1, r.2.2.2.2, ()), ()), ())) (fun _ => rfl)) (.m (R := List pred_Node × List lex_Token × Int × Int) (.r 3) (.c (.c (.r 0) (.c (.i .i64) (.c (.i .i64) .n))) .n) .n (fun z => (z.1, z.2.1.1.1, z.2.1.1.2.1, z.2.1.1.2.2.1)) (fun r => (r.1, ((r.2.1, r.2.2.1, r.2.2.2, ()), ()), ())) (fun _ => rfl)))
def C_predtext_parser_sum_v424 : Con tb := .m 196 [false] (.c (.ptr 0 0) .n) (.c (.c (.r 0) (.c (.i .i64) (.c (.i .i64) .n))) .n) .n (fun N a => s_predtext_parser_sum_v424 N a.2.1.1.1 a.2.1.1.2.1 a.2.1.1.2.2.1) (R := (Int × Int × List lex_Token × Int × Int) ⊕ (List pred_Node × List lex_Token × Int × Int)) (.or (.m (R := Int × Int × List lex_Token × Int × Int) (.ifc 16777468 (.ag (.c (.i .i64) (.c (.i .i64) .n)))) (.c (.c (.r 0) (.c (.i .i64) (.c (.i .i64) .n))) .n) .n (fun z => (z.1.1, z.1.2.1, z.2.1.1.1, z.2.1.1.2.1, z.2.1.1.2.2.1)) (fun r => ((r.1, r.2.1, ()), ((r.2.2.1, r.2.2.2.1, r.2.2.2.2, ()), ()), ())) (fun _ => rfl)) (.m (R := List pred_Node × List lex_Token × Int × Int) (.r 3) (.c (.c (.r 0) (.c (.i .i64) (.c (.i .i64) .n))) .n) .n (fun z => (z.1, z.2.1.1.1, z.2.1.1.2.1, z.2.1.1.2.2.1)) (fun r => (r.1, ((r.2.1, r.2.2.1, r.2.2.2, ()), ()), ())) (fun _ => rfl)))
def q_predtext_parser_sum_v424_0 : LQ tb ((Unit) × ((List pred_Node) × (List lex_Token) × Int × Int)) := (LQ.m [] [0, 3] (.c 0 (.ptr 0 0) (.c 3 (.r 3) .n)) (.c (.c (.r 0) (.c (.i .i64) (.c (.i .i64) .n))) .n) .n).re (fun a => ((), (a.1.2.1, a.2.1.1.1, a.2.1.1.2.1, a.2.1.1.2.2.1))) (fun x => (((), x.2.1, ()), ((x.2.2.1, x.2.2.2.1, x.2.2.2.2, ()), ()), ())) (fun _ => rfl)
def f_predtext_parser_sum_v424_0 (N : Nat) (c : Unit) (next : ((List pred_Node) × (List lex_Token) × Int × Int) → Option ((Int × Int × List lex_Token × Int × Int) ⊕ (List pred_Node × List lex_Token × Int × Int))) (v : (List pred_Node) × (List lex_Token) × Int × Int) : Option ((Int × Int × List lex_Token × Int × Int) ⊕ (List pred_Node × List lex_Token × Int × Int)) := s_predtext_parser_sum_v424_1 N (fun u0 u1 u2 u3 => next (u0, u1, u2, u3)) v.1 v.2.1 v.2.2.1 v.2.2.2
abbrev r_predtext_parser_sum_v424_0 (N : Nat) : (Unit) × ((List pred_Node) × (List lex_Token) × Int × Int) → Option ((Int × Int × List lex_Token × Int × Int) ⊕ (List pred_Node × List lex_Token × Int × Int)) := fun a => loopV (f_predtext_parser_sum_v424_0 N a.1) N a.2
def C_compare_Sign : Con tb := .s 143 [true] (.c (.i .u8) .n) (fun N a => s_compare_Sign N a.1) (R := List UInt8) (.p .s) (fun _ => ⟨rfl, (by kernel_rfl)⟩)
def C_compare_Op : Con tb := .s 197 [true] (.c .s .n) (fun N a => s_compare_Op N a.1) (R := Int) (.p (.i .u8)) (fun _ => ⟨rfl, (by kernel_rfl)⟩)
def q_compare_Op_0 : LQ tb (((List UInt8)) × (Int)) := (LQ.m [] [0, 3] (.c 0 .s (.c 3 (.i .u8) .n)) .n .n).re (fun a => (a.1.1, a.1.2.1)) (fun x => ((x.1, x.2, ()), (), ())) (fun _ => rfl)
def f_compare_Op_0 (N : Nat) (c : (List UInt8)) (next : Int → Option Int) (v : Int) : Option Int := s_compare_Op_1 N c (fun u0 => next u0) v
abbrev r_compare_Op_0 (N : Nat) : ((List UInt8)) × (Int) → Option Int := fun a => loopV (f_compare_Op_0 N a.1) N a.2
def C_predtext_parser_or_v927 : Con tb := .m 177 [false, true] (.c (.ptr 0 0) (.c (.i .i64) .n)) (.c (.c (.r 0) (.c (.i .i64) (.c (.i .i64) .n))) .n) .n (fun N a => s_predtext_parser_or_v927 N a.1.2.1 a.2.1.1.1 a.2.1.1.2.1 a.2.1.1.2.2.1) (R := (Int × Int × List lex_Token × Int × Int) ⊕ (List pred_Node × List lex_Token × Int × Int)) (.or (.m (R := Int × Int × List lex_Token × Int × Int) (.ifc 16777468 (.ag (.c (.i .i64) (.c (.i .i64) .n)))) (.c (.c (.r 0) (.c (.i .i64) (.c (.i .i64) .n))) .n) .n (fun z => (z.1.1, z.1.2.1, z.2.1.1.1, z.2.1.1.2.1, z.2.1.1.2.2.1)) (fun r => ((r.1, r.2.1, ()), ((r.2.2.1, r.2.2.2.1, r.2.2.2.2, ()), ()), ())) (fun _ => rfl)) (.m (R := List pred_Node × List lex_Token × Int × Int) (.r 3) (.c (.c (.r 0) (.c (.i .i64) (.c (.i .i64) .n))) .n) .n (fun z => (z.1, z.2.1.1.1, z.2.1.1.2.1, z.2.1.1.2.2.1)) (fun r => (r.1, ((r.2.1, r.2.2.1, r.2.2.2, ()), ()), ())) (fun _ => rfl)))
def q_predtext_parser_or_v927_0 : LQ tb ((Int) × ((List pred_Node) × (List lex_Token) × Int × Int)) := (LQ.m [] [0, 1, 5] (.c 0 (.ptr 0 0) (.c 1 (.i .i64) (.c 5 (.r 3) .n))) (.c (.c (.r 0) (.c (.i .i64) (.c (.i .i64) .n))) .n) .n).re (fun a => (a.1.2.1, (a.1.2.2.1, a.2.1.1.1, a.2.1.1.2.1, a.2.1.1.2.2.1))) (fun x => (((), x.1, x.2.1, ()), ((x.2.2.1, x.2.2.2.1, x.2.2.2.2, ()), ()), ())) (fun _ => rfl)
def f_predtext_parser_or_v927_0 (N : Nat) (c : Int) (next : ((List pred_Node) × (List lex_Token) × Int × Int) → Option ((Int × Int × List lex_Token × Int × Int) ⊕ (List pred_Node × List lex_Token × Int × Int))) (v : (List pred_Node) × (List lex_Token) × Int × Int) : Option ((Int × Int × List lex_Token × Int × Int) ⊕ (List pred_Node × List lex_Token × Int × Int)) := s_predtext_parser_or_v927_1 N (SS_predtext_parser_or_v927 N) c (fun u0 u1 u2 u3 => next (u0, u1, u2, u3)) v.1 v.2.1 v.2.2.1 v.2.2.2
abbrev r_predtext_parser_or_v927_0 (N : Nat) : (Int) × ((List pred_Node) × (List lex_Token) × Int × Int) → Option ((Int × Int × List lex_Token × Int × Int) ⊕ (List pred_Node × List lex_Token × Int × Int)) := fun a => loopV (f_predtext_parser_or_v927_0 N a.1) N a.2
def C_predtext_parser_and_v927 : Con tb := .m 183 [false, true] (.c (.ptr 0 0) (.c (.i .i64) .n)) (.c (.c (.r 0) (.c (.i .i64) (.c (.i .i64) .n))) .n) .n (fun N a => s_predtext_parser_and_v927 N a.1.2.1 a.2.1.1.1 a.2.1.1.2.1 a.2.1.1.2.2.1) (R := (Int × Int × List lex_Token × Int × Int) ⊕ (List pred_Node × List lex_Token × Int × Int)) (.or (.m (R := Int × Int × List lex_Token × Int × Int) (.ifc 16777468 (.ag (.c (.i .i64) (.c (.i .i64) .n)))) (.c (.c (.r 0) (.c (.i .i64) (.c (.i .i64) .n))) .n) .n (fun z => (z.1.1, z.1.2.1, z.2.1.1.1, z.2.1.1.2.1, z.2.1.1.2.2.1)) (fun r => ((r.1, r.2.1, ()), ((r.2.2.1, r.2.2.2.1, r.2.2.2.2, ()), ()), ())) (fun _ => rfl)) (.m (R := List pred_Node × List lex_Token × Int × Int) (.r 3) (.c (.c (.r 0) (.c (.i .i64) (.c (.i .i64) .n))) .n) .n (fun z => (z.1, z.2.1.1.1, z.2.1.1.2.1, z.2.1.1.2.2.1)) (fun r => (r.1, ((r.2.1, r.2.2.1, r.2.2.2, ()), ()), ())) (fun _ => rfl)))
def q_predtext_parser_and_v927_0 : LQ tb ((Int) × ((List pred_Node) × (List lex_Token) × Int × Int)) := (LQ.m [] [0, 1, 5] (.c 0 (.ptr 0 0) (.c 1 (.i .i64) (.c 5 (.r 3) .n))) (.c (.c (.r 0) (.c (.i .i64) (.c (.i .i64) .n))) .n) .n).re (fun a => (a.1.2.1, (a.1.2.2.1, a.2.1.1.1, a.2.1.1.2.1, a.2.1.1.2.2.1))) (fun x => (((), x.1, x.2.1, ()), ((x.2.2.1, x.2.2.2.1, x.2.2.2.2, ()), ()), ())) (fun _ => rfl)
def f_predtext_parser_and_v927_0 (N : Nat) (c : Int) (next : ((List pred_Node) × (List lex_Token) × Int × Int) → Option ((Int × Int × List lex_Token × Int × Int) ⊕ (List pred_Node × List lex_Token × Int × Int))) (v : (List pred_Node) × (List lex_Token) × Int × Int) : Option ((Int × Int × List lex_Token × Int × Int) ⊕ (List pred_Node × List lex_Token × Int × Int)) := s_predtext_parser_and_v927_1 N (SS_predtext_parser_or_v927 N) c (fun u0 u1 u2 u3 => next (u0, u1, u2, u3)) v.1 v.2.1 v.2.2.1 v.2.2.2
abbrev r_predtext_parser_and_v927_0 (N : Nat) : (Int) × ((List pred_Node) × (List lex_Token) × Int × Int) → Option ((Int × Int × List lex_Token × Int × Int) ⊕ (List pred_Node × List lex_Token × Int × Int)) := fun a => loopV (f_predtext_parser_and_v927_0 N a.1) N a.2
def C_predtext_parser_part_v927 : Con tb := .m 187 [false, true] (.c (.ptr 0 0) (.c (.i .i64) .n)) (.c (.c (.r 0) (.c (.i .i64) (.c (.i .i64) .n))) .n) .n (fun N a => s_predtext_parser_part_v927 N a.1.2.1 a.2.1.1.1 a.2.1.1.2.1 a.2.1.1.2.2.1) (R := (Int × Int × List lex_Token × Int × Int) ⊕ (List pred_Node × List lex_Token × Int × Int)) (.or (.m (R := Int × Int × List lex_Token × Int × Int) (.ifc 16777468 (.ag (.c (.i .i64) (.c (.i .i64) .n)))) (.c (.c (.r 0) (.c (.i .i64) (.c (.i .i64) .n))) .n) .n (fun z => (z.1.1, z.1.2.1, z.2.1.1.1, z.2.1.1.2.1, z.2.1.1.2.2.1)) (fun r => ((r.1, r.2.1, ()), ((r.2.2.1, r.2.2.2.1, r.2.2.2.2, ()), ()), ())) (fun _ => rfl)) (.m (R := List pred_Node × List lex_Token × Int × Int) (.r 3) (.c (.c (.r 0) (.c (.i .i64) (.c (.i .i64) .n))) .n) .n (fun z => (z.1, z.2.1.1.1, z.2.1.1.2.1, z.2.1.1.2.2.1)) (fun r => (r.1, ((r.2.1, r.2.2.1, r.2.2.2, ()), ()), ())) (fun _ => rfl)))
def C_pred_Node_stands : Con tb := .s 155 [true, true] (.c (.el tb_ok 3) (.c (.i .i64) .n)) (fun N a => s_pred_Node_stands N a.1 a.2.1) (R := Bool) (.p .b) (fun _ => ⟨rfl, (by kernel_rfl)⟩)
def C_schema_letter : Con tb := .s 82 [true] (.c (.i .u8) .n) (fun N a => s_schema_letter N a.1) (R := Bool) (.p .b) (fun _ => ⟨rfl, (by kernel_rfl)⟩)
def C_schema_tail : Con tb := .s 84 [true] (.c (.i .u8) .n) (fun N a => s_schema_tail N a.1) (R := Bool) (.p .b) (fun _ => ⟨rfl, (by kernel_rfl)⟩)
def C_schema_Name : Con tb := .s 48 [true] (.c .s .n) (fun N a => s_schema_Name N a.1) (R := Bool) (.p .b) (fun _ => ⟨rfl, (by kernel_rfl)⟩)
def q_schema_Name_0 : LQ tb (((List UInt8)) × (Int)) := (LQ.m [] [0, 3] (.c 0 .s (.c 3 (.i .i64) .n)) .n .n).re (fun a => (a.1.1, a.1.2.1)) (fun x => ((x.1, x.2, ()), (), ())) (fun _ => rfl)
def f_schema_Name_0 (N : Nat) (c : (List UInt8)) (next : Int → Option Bool) (v : Int) : Option Bool := s_schema_Name_1 N c (fun u0 => next u0) v
abbrev r_schema_Name_0 (N : Nat) : ((List UInt8)) × (Int) → Option Bool := fun a => loopV (f_schema_Name_0 N a.1) N a.2
def C_value_core : Con tb := .p 144 [true] (.c (.el tb_ok 1) .n) (fun N a => s_value_core N a.1) (R := Int ⊕ Int ⊕ Int ⊕ (List UInt8) ⊕ Unit) (.or (.p (.ifc 209 (.i .i64))) (.or (.p (.ifc 210 (.i .i64))) (.or (.p (.ifc 211 (.i .u64))) (.or (.p (.ifc 212 .s)) (.p .ni))))) (fun r => by rcases r with _ | _ | _ | _ | _ <;> exact rfl)
def C_value_number_whole : Con tb := .s 237 [true] (.c (.i .i64) .n) (fun N a => s_value_number_whole N a.1) (R := value_Value) (.p (.el tb_ok 1)) (fun _ => ⟨rfl, (by kernel_rfl)⟩)
def C_value_flag_whole : Con tb := .s 238 [true] (.c (.i .i64) .n) (fun N a => s_value_flag_whole N a.1) (R := value_Value) (.p (.el tb_ok 1)) (fun _ => ⟨rfl, (by kernel_rfl)⟩)
def C_value_double_whole : Con tb := .s 239 [true] (.c (.i .u64) .n) (fun N a => s_value_double_whole N a.1) (R := value_Value) (.p (.el tb_ok 1)) (fun _ => ⟨rfl, (by kernel_rfl)⟩)
def C_value_words_whole : Con tb := .s 240 [true] (.c .s .n) (fun N a => s_value_words_whole N a.1) (R := value_Value) (.p (.el tb_ok 1)) (fun _ => ⟨rfl, (by kernel_rfl)⟩)
def C_value_Check : Con tb := .s 112 [true] (.c (.el tb_ok 1) .n) (fun N a => s_value_Check N a.1) (R := Int) (.p (.i .i64)) (fun _ => ⟨rfl, (by kernel_rfl)⟩)
def C_pred_Node_lacks : Con tb := .s 157 [true] (.c (.el tb_ok 3) .n) (fun N a => s_pred_Node_lacks N a.1) (R := Bool) (.p .b) (fun _ => ⟨rfl, (by kernel_rfl)⟩)
def C_pred_is_v782 : Con tb := .s 156 [true, false, true] (.c (.el tb_ok 3) (.c (.fn 157 .n .n) (.c (.i .i64) .n))) (fun N a => s_pred_is_v782 N a.1 a.2.2.1) (R := Int) (.p (.i .i64)) (fun _ => ⟨rfl, (by kernel_rfl)⟩)
def C_pred_Node_more : Con tb := .s 158 [true] (.c (.el tb_ok 3) .n) (fun N a => s_pred_Node_more N a.1) (R := Bool) (.p .b) (fun _ => ⟨rfl, (by kernel_rfl)⟩)
def C_pred_is_v272 : Con tb := .s 156 [true, false, true] (.c (.el tb_ok 3) (.c (.fn 158 .n .n) (.c (.i .i64) .n))) (fun N a => s_pred_is_v272 N a.1 a.2.2.1) (R := Int) (.p (.i .i64)) (fun _ => ⟨rfl, (by kernel_rfl)⟩)
def C_pred_Kids : Con tb := .s 159 [true] (.c (.i .u8) .n) (fun N a => s_pred_Kids N a.1) (R := Int) (.p (.i .i64)) (fun _ => ⟨rfl, (by kernel_rfl)⟩)
def C_pred_Node_kid : Con tb := .s 160 [true, true] (.c (.el tb_ok 3) (.c (.i .i64) .n)) (fun N a => s_pred_Node_kid N a.1 a.2.1) (R := Int) (.p (.i .i64)) (fun _ => ⟨rfl, (by kernel_rfl)⟩)
def C_pred_checker_tree_v739 : Con tb := .m 140 [false, true, true] (.c (.ptr 0 0) (.c (.i .i64) (.c (.i .i64) .n))) (.c (.c (.r 3) (.c (.i .i64) .n)) .n) .n (fun N a => s_pred_checker_tree_v739 N a.1.2.1 a.1.2.2.1 a.2.1.1.1 a.2.1.1.2.1) (R := Int × List pred_Node × Int) (.m (R := Int × List pred_Node × Int) (.i .i64) (.c (.c (.r 3) (.c (.i .i64) .n)) .n) .n (fun z => (z.1, z.2.1.1.1, z.2.1.1.2.1)) (fun r => (r.1, ((r.2.1, r.2.2, ()), ()), ())) (fun _ => rfl))
def q_pred_checker_tree_v739_0 : LQ tb ((Int × Int × Int × Int × (List UInt8) × (List UInt8) × Int × Int × Int × (List UInt8)) × (Int × (List pred_Node) × Int)) := (LQ.m [] [0, 2, 7, 57, 58] (.c 0 (.ptr 0 0) (.c 2 (.i .i64) (.c 7 (.ptr 1 0) (.c 57 (.i .i64) (.c 58 (.i .i64) .n))))) (.c (.c (.r 3) (.c (.i .i64) .n)) (.c (.c (.i .u8) (.c (.i .u8) (.c .s (.c .s (.c (.i .u8) (.c (.i .i64) (.c (.i .u64) (.c .s .n)))))))) .n)) .n).re (fun a => ((a.1.2.1, a.1.2.2.2.1, a.2.1.2.1.1, a.2.1.2.1.2.1, a.2.1.2.1.2.2.1, a.2.1.2.1.2.2.2.1, a.2.1.2.1.2.2.2.2.1, a.2.1.2.1.2.2.2.2.2.1, a.2.1.2.1.2.2.2.2.2.2.1, a.2.1.2.1.2.2.2.2.2.2.2.1), (a.1.2.2.2.2.1, a.2.1.1.1, a.2.1.1.2.1))) (fun x => (((), x.1.1, (), x.1.2.1, x.2.1, ()), ((x.2.2.1, x.2.2.2, ()), (x.1.2.2.1, x.1.2.2.2.1, x.1.2.2.2.2.1, x.1.2.2.2.2.2.1, x.1.2.2.2.2.2.2.1, x.1.2.2.2.2.2.2.2.1, x.1.2.2.2.2.2.2.2.2.1, x.1.2.2.2.2.2.2.2.2.2, ()), ()), ())) (fun _ => rfl)
def f_pred_checker_tree_v739_0 (N : Nat) (c : Int × Int × Int × Int × (List UInt8) × (List UInt8) × Int × Int × Int × (List UInt8)) (next : (Int × (List pred_Node) × Int) → Option (Int × List pred_Node × Int)) (v : Int × (List pred_Node) × Int) : Option (Int × List pred_Node × Int) := s_pred_checker_tree_v739_1 N (SS_pred_checker_tree_v739 N) c.1 c.2.1 c.2.2.1 c.2.2.2.1 c.2.2.2.2.1 c.2.2.2.2.2.1 c.2.2.2.2.2.2.1 c.2.2.2.2.2.2.2.1 c.2.2.2.2.2.2.2.2.1 c.2.2.2.2.2.2.2.2.2 (fun u0 u1 u2 => next (u0, u1, u2)) v.1 v.2.1 v.2.2
abbrev r_pred_checker_tree_v739_0 (N : Nat) : (Int × Int × Int × Int × (List UInt8) × (List UInt8) × Int × Int × Int × (List UInt8)) × (Int × (List pred_Node) × Int) → Option (Int × List pred_Node × Int) := fun a => loopV (f_pred_checker_tree_v739_0 N a.1) N a.2
def C_pred_Check : Con tb := .s 110 [true] (.c (.r 3) .n) (fun N a => s_pred_Check N a.1) (R := Int) (.p (.i .i64)) (fun _ => ⟨rfl, (by kernel_rfl)⟩)
def C_predtext_Parse : Con tb := .p 164 [true, true, true] (.c (.r 0) (.c (.i .i64) (.c (.i .i64) .n))) (fun N a => s_predtext_Parse N a.1 a.2.1 a.2.2.1) (R := (List pred_Node × Int) ⊕ (List pred_Node × Int × Int × Int)) (.or (.m (R := List pred_Node × Int) (.tu (.c (.r 3) (.c (.i .i64) (.c .ni .n)))) .n .n (fun z => (z.1.1, z.1.2.1)) (fun r => ((r.1, r.2, (), ()), (), ())) (fun _ => rfl)) (.m (R := List pred_Node × Int × Int × Int) (.tu (.c (.r 3) (.c (.i .i64) (.o (.ifc 84 (.dp (.c (.i .i64) (.c (.i .i64) .n)))))))) .n .n (fun z => (z.1.1, z.1.2.1, z.1.2.2.1, z.1.2.2.2.1)) (fun r => ((r.1, r.2.1, r.2.2.1, r.2.2.2, ()), (), ())) (fun _ => rfl))) (fun r => by rcases r with _ | _ <;> exact rfl)
def C_grammar_reader_atom_v128 : Con tb := .m 150 [false, true] (.c (.ptr 0 0) (.c (.i .u8) .n)) (.c (.c (.r 0) (.c (.i .i64) (.c (.i .i64) .n))) .n) .n (fun N a => s_grammar_reader_atom_v128 N a.1.2.1 a.2.1.1.1 a.2.1.1.2.1 a.2.1.1.2.2.1) (R := (List shape_Node × List lex_Token × Int × Int) ⊕ (Int × Int × List lex_Token × Int × Int)) (.or (.m (R := List shape_Node × List lex_Token × Int × Int) (.r 5) (.c (.c (.r 0) (.c (.i .i64) (.c (.i .i64) .n))) .n) .n (fun z => (z.1, z.2.1.1.1, z.2.1.1.2.1, z.2.1.1.2.2.1)) (fun r => (r.1, ((r.2.1, r.2.2.1, r.2.2.2, ()), ()), ())) (fun _ => rfl)) (.m (R := Int × Int × List lex_Token × Int × Int) (.ifc 16777300 (.dp (.c (.i .i64) (.c (.i .i64) .n)))) (.c (.c (.r 0) (.c (.i .i64) (.c (.i .i64) .n))) .n) .n (fun z => (z.1.1, z.1.2.1, z.2.1.1.1, z.2.1.1.2.1, z.2.1.1.2.2.1)) (fun r => ((r.1, r.2.1, ()), ((r.2.2.1, r.2.2.2.1, r.2.2.2.2, ()), ()), ())) (fun _ => rfl)))
def C_grammar_reader_number_v424 : Con tb := .m 55 [false] (.c (.ptr 0 0) .n) (.c (.c (.r 0) (.c (.i .i64) (.c (.i .i64) .n))) .n) .n (fun N a => s_grammar_reader_number_v424 N a.2.1.1.1 a.2.1.1.2.1 a.2.1.1.2.2.1) (R := (Int × List lex_Token × Int × Int) ⊕ (Int × Int × List lex_Token × Int × Int)) (.or (.m (R := Int × List lex_Token × Int × Int) (.i .i64) (.c (.c (.r 0) (.c (.i .i64) (.c (.i .i64) .n))) .n) .n (fun z => (z.1, z.2.1.1.1, z.2.1.1.2.1, z.2.1.1.2.2.1)) (fun r => (r.1, ((r.2.1, r.2.2.1, r.2.2.2, ()), ()), ())) (fun _ => rfl)) (.m (R := Int × Int × List lex_Token × Int × Int) (.ifc 16777300 (.dp (.c (.i .i64) (.c (.i .i64) .n)))) (.c (.c (.r 0) (.c (.i .i64) (.c (.i .i64) .n))) .n) .n (fun z => (z.1.1, z.1.2.1, z.2.1.1.1, z.2.1.1.2.1, z.2.1.1.2.2.1)) (fun r => ((r.1, r.2.1, ()), ((r.2.2.1, r.2.2.2.1, r.2.2.2.2, ()), ()), ())) (fun _ => rfl)))
def C_grammar_reader_counted_v424 : Con tb := .m 165 [false] (.c (.ptr 0 0) .n) (.c (.c (.r 0) (.c (.i .i64) (.c (.i .i64) .n))) .n) .n (fun N a => s_grammar_reader_counted_v424 N a.2.1.1.1 a.2.1.1.2.1 a.2.1.1.2.2.1) (R := (Int × Int × List lex_Token × Int × Int) ⊕ (Int × Int × List lex_Token × Int × Int)) (.or (.m (R := Int × Int × List lex_Token × Int × Int) (.tu (.c (.i .i64) (.o (.i .i64)))) (.c (.c (.r 0) (.c (.i .i64) (.c (.i .i64) .n))) .n) .n (fun z => (z.1.1, z.1.2, z.2.1.1.1, z.2.1.1.2.1, z.2.1.1.2.2.1)) (fun r => ((r.1, r.2.1), ((r.2.2.1, r.2.2.2.1, r.2.2.2.2, ()), ()), ())) (fun _ => rfl)) (.m (R := Int × Int × List lex_Token × Int × Int) (.ifc 16777300 (.dp (.c (.i .i64) (.c (.i .i64) .n)))) (.c (.c (.r 0) (.c (.i .i64) (.c (.i .i64) .n))) .n) .n (fun z => (z.1.1, z.1.2.1, z.2.1.1.1, z.2.1.1.2.1, z.2.1.1.2.2.1)) (fun r => ((r.1, r.2.1, ()), ((r.2.2.1, r.2.2.2.1, r.2.2.2.2, ()), ()), ())) (fun _ => rfl)))
def C_grammar_reader_often_v615 : Con tb := .m 151 [false, true] (.c (.ptr 0 0) (.c (.r 5) .n)) (.c (.c (.r 0) (.c (.i .i64) (.c (.i .i64) .n))) .n) .n (fun N a => s_grammar_reader_often_v615 N a.1.2.1 a.2.1.1.1 a.2.1.1.2.1 a.2.1.1.2.2.1) (R := (List shape_Node × List lex_Token × Int × Int) ⊕ (Int × Int × List lex_Token × Int × Int)) (.or (.m (R := List shape_Node × List lex_Token × Int × Int) (.r 5) (.c (.c (.r 0) (.c (.i .i64) (.c (.i .i64) .n))) .n) .n (fun z => (z.1, z.2.1.1.1, z.2.1.1.2.1, z.2.1.1.2.2.1)) (fun r => (r.1, ((r.2.1, r.2.2.1, r.2.2.2, ()), ()), ())) (fun _ => rfl)) (.m (R := Int × Int × List lex_Token × Int × Int) (.ifc 16777300 (.dp (.c (.i .i64) (.c (.i .i64) .n)))) (.c (.c (.r 0) (.c (.i .i64) (.c (.i .i64) .n))) .n) .n (fun z => (z.1.1, z.1.2.1, z.2.1.1.1, z.2.1.1.2.1, z.2.1.1.2.2.1)) (fun r => ((r.1, r.2.1, ()), ((r.2.2.1, r.2.2.2.1, r.2.2.2.2, ()), ()), ())) (fun _ => rfl)))
def C_grammar_reader_list_L1_v824 : Con tb := .m 128 [true, false, false] (.c (.r 5) (.c (.ptr 0 0) (.c (.ptr 1 0) .n))) (.c (.c (.i .u8) .n) (.c (.c (.own 0) .n) .n)) (.l 5 .n) (fun N a => s_grammar_reader_list_L1_v824 N a.1.1 a.2.1.1.1 a.2.2.1) (R := Int × List shape_Node) (.m (R := Int × List shape_Node) (.tu .n) (.c (.c (.i .u8) .n) (.c (.c (.own 1) .n) .n)) (.d (.l 5 .n)) (fun z => (z.2.1.1.1, z.2.2.1)) (fun r => ((), ((r.1, ()), ((), ()), ()), r.2, ())) (fun _ => rfl))
def C_grammar_reader_body_v927 : Con tb := .m 53 [false, true] (.c (.ptr 0 0) (.c (.i .i64) .n)) (.c (.c (.r 0) (.c (.i .i64) (.c (.i .i64) .n))) .n) .n (fun N a => s_grammar_reader_body_v927 N a.1.2.1 a.2.1.1.1 a.2.1.1.2.1 a.2.1.1.2.2.1) (R := (List shape_Node × List lex_Token × Int × Int) ⊕ (Int × Int × List lex_Token × Int × Int)) (.or (.m (R := List shape_Node × List lex_Token × Int × Int) (.r 5) (.c (.c (.r 0) (.c (.i .i64) (.c (.i .i64) .n))) .n) .n (fun z => (z.1, z.2.1.1.1, z.2.1.1.2.1, z.2.1.1.2.2.1)) (fun r => (r.1, ((r.2.1, r.2.2.1, r.2.2.2, ()), ()), ())) (fun _ => rfl)) (.m (R := Int × Int × List lex_Token × Int × Int) (.ifc 16777300 (.dp (.c (.i .i64) (.c (.i .i64) .n)))) (.c (.c (.r 0) (.c (.i .i64) (.c (.i .i64) .n))) .n) .n (fun z => (z.1.1, z.1.2.1, z.2.1.1.1, z.2.1.1.2.1, z.2.1.1.2.2.1)) (fun r => ((r.1, r.2.1, ()), ((r.2.2.1, r.2.2.2.1, r.2.2.2.2, ()), ()), ())) (fun _ => rfl)))
def C_grammar_reader_list_v946 : Con tb := .m 95 [false, true, true, false, true] (.c (.ptr 0 0) (.c (.i .u8) (.c .s (.c (.fn 96 (.c (.ptr 0 0) .n) .n) (.c (.i .i64) .n))))) (.c (.c (.r 0) (.c (.i .i64) (.c (.i .i64) .n))) .n) .n (fun N a => s_grammar_reader_list_v946 N a.1.2.1 a.1.2.2.1 a.1.2.2.2.2.1 a.2.1.1.1 a.2.1.1.2.1 a.2.1.1.2.2.1) (R := (List shape_Node × List lex_Token × Int × Int) ⊕ (Int × Int × List lex_Token × Int × Int)) (.or (.m (R := List shape_Node × List lex_Token × Int × Int) (.r 5) (.c (.c (.r 0) (.c (.i .i64) (.c (.i .i64) .n))) .n) .n (fun z => (z.1, z.2.1.1.1, z.2.1.1.2.1, z.2.1.1.2.2.1)) (fun r => (r.1, ((r.2.1, r.2.2.1, r.2.2.2, ()), ()), ())) (fun _ => rfl)) (.m (R := Int × Int × List lex_Token × Int × Int) (.ifc 16777300 (.dp (.c (.i .i64) (.c (.i .i64) .n)))) (.c (.c (.r 0) (.c (.i .i64) (.c (.i .i64) .n))) .n) .n (fun z => (z.1.1, z.1.2.1, z.2.1.1.1, z.2.1.1.2.1, z.2.1.1.2.2.1)) (fun r => ((r.1, r.2.1, ()), ((r.2.2.1, r.2.2.2.1, r.2.2.2.2, ()), ()), ())) (fun _ => rfl)))
def q_grammar_reader_list_v946_0 : LQ tb (((List UInt8) × Int) × ((List lex_Token) × Int × Int × Int × (List shape_Node))) := (LQ.m [] [0, 2, 3, 4, 12, 13] (.c 0 (.ptr 0 0) (.c 2 .s (.c 3 (.fn 96 (.c (.ptr 0 0) .n) .n) (.c 4 (.i .i64) (.c 12 (.ptr 1 0) (.c 13 (.fn 128 .n (.c (.ptr 2 0) (.c (.ptr 1 0) .n))) .n)))))) (.c (.c (.r 0) (.c (.i .i64) (.c (.i .i64) .n))) (.c (.c (.own 0) .n) (.c (.c (.i .u8) .n) .n))) (.l 5 .n)).re (fun a => ((a.1.2.1, a.1.2.2.2.1), (a.2.1.1.1, a.2.1.1.2.1, a.2.1.1.2.2.1, a.2.1.2.2.1.1, a.2.2.1))) (fun x => (((), x.1.1, (((), ()), ()), x.1.2, (), ((), (), (), ()), ()), ((x.2.1, x.2.2.1, x.2.2.2.1, ()), ((), ()), (x.2.2.2.2.1, ()), ()), x.2.2.2.2.2, ())) (fun _ => rfl)
def f_grammar_reader_list_v946_0 (N : Nat) (c : (List UInt8) × Int) (next : ((List lex_Token) × Int × Int × Int × (List shape_Node)) → Option ((List shape_Node × List lex_Token × Int × Int) ⊕ (Int × Int × List lex_Token × Int × Int))) (v : (List lex_Token) × Int × Int × Int × (List shape_Node)) : Option ((List shape_Node × List lex_Token × Int × Int) ⊕ (Int × Int × List lex_Token × Int × Int)) := s_grammar_reader_list_v946_1 N (SS_grammar_reader_body_v927 N) c.1 c.2 (fun u0 u1 u2 u3 u4 => next (u0, u1, u2, u3, u4)) v.1 v.2.1 v.2.2.1 v.2.2.2.1 v.2.2.2.2
abbrev r_grammar_reader_list_v946_0 (N : Nat) : ((List UInt8) × Int) × ((List lex_Token) × Int × Int × Int × (List shape_Node)) → Option ((List shape_Node × List lex_Token × Int × Int) ⊕ (Int × Int × List lex_Token × Int × Int)) := fun a => loopV (f_grammar_reader_list_v946_0 N a.1) N a.2
def C_grammar_reader_branch_v927 : Con tb := .m 96 [false, true] (.c (.ptr 0 0) (.c (.i .i64) .n)) (.c (.c (.r 0) (.c (.i .i64) (.c (.i .i64) .n))) .n) .n (fun N a => s_grammar_reader_branch_v927 N a.1.2.1 a.2.1.1.1 a.2.1.1.2.1 a.2.1.1.2.2.1) (R := (List shape_Node × List lex_Token × Int × Int) ⊕ (Int × Int × List lex_Token × Int × Int)) (.or (.m (R := List shape_Node × List lex_Token × Int × Int) (.r 5) (.c (.c (.r 0) (.c (.i .i64) (.c (.i .i64) .n))) .n) .n (fun z => (z.1, z.2.1.1.1, z.2.1.1.2.1, z.2.1.1.2.2.1)) (fun r => (r.1, ((r.2.1, r.2.2.1, r.2.2.2, ()), ()), ())) (fun _ => rfl)) (.m (R := Int × Int × List lex_Token × Int × Int) (.ifc 16777300 (.dp (.c (.i .i64) (.c (.i .i64) .n)))) (.c (.c (.r 0) (.c (.i .i64) (.c (.i .i64) .n))) .n) .n (fun z => (z.1.1, z.1.2.1, z.2.1.1.1, z.2.1.1.2.1, z.2.1.1.2.2.1)) (fun r => ((r.1, r.2.1, ()), ((r.2.2.1, r.2.2.2.1, r.2.2.2.2, ()), ()), ())) (fun _ => rfl)))
def C_grammar_reader_list_v624 : Con tb := .m 95 [false, true, true, false, true] (.c (.ptr 0 0) (.c (.i .u8) (.c .s (.c (.fn 129 (.c (.ptr 0 0) .n) .n) (.c (.i .i64) .n))))) (.c (.c (.r 0) (.c (.i .i64) (.c (.i .i64) .n))) .n) .n (fun N a => s_grammar_reader_list_v624 N a.1.2.1 a.1.2.2.1 a.1.2.2.2.2.1 a.2.1.1.1 a.2.1.1.2.1 a.2.1.1.2.2.1) (R := (List shape_Node × List lex_Token × Int × Int) ⊕ (Int × Int × List lex_Token × Int × Int)) (.or (.m (R := List shape_Node × List lex_Token × Int × Int) (.r 5) (.c (.c (.r 0) (.c (.i .i64) (.c (.i .i64) .n))) .n) .n (fun z => (z.1, z.2.1.1.1, z.2.1.1.2.1, z.2.1.1.2.2.1)) (fun r => (r.1, ((r.2.1, r.2.2.1, r.2.2.2, ()), ()), ())) (fun _ => rfl)) (.m (R := Int × Int × List lex_Token × Int × Int) (.ifc 16777300 (.dp (.c (.i .i64) (.c (.i .i64) .n)))) (.c (.c (.r 0) (.c (.i .i64) (.c (.i .i64) .n))) .n) .n (fun z => (z.1.1, z.1.2.1, z.2.1.1.1, z.2.1.1.2.1, z.2.1.1.2.2.1)) (fun r => ((r.1, r.2.1, ()), ((r.2.2.1, r.2.2.2.1, r.2.2.2.2, ()), ()), ())) (fun _ => rfl)))
def q_grammar_reader_list_v624_0 : LQ tb (((List UInt8) × Int) × ((List lex_Token) × Int × Int × Int × (List shape_Node))) := (LQ.m [] [0, 2, 3, 4, 12, 13] (.c 0 (.ptr 0 0) (.c 2 .s (.c 3 (.fn 129 (.c (.ptr 0 0) .n) .n) (.c 4 (.i .i64) (.c 12 (.ptr 1 0) (.c 13 (.fn 128 .n (.c (.ptr 2 0) (.c (.ptr 1 0) .n))) .n)))))) (.c (.c (.r 0) (.c (.i .i64) (.c (.i .i64) .n))) (.c (.c (.own 0) .n) (.c (.c (.i .u8) .n) .n))) (.l 5 .n)).re (fun a => ((a.1.2.1, a.1.2.2.2.1), (a.2.1.1.1, a.2.1.1.2.1, a.2.1.1.2.2.1, a.2.1.2.2.1.1, a.2.2.1))) (fun x => (((), x.1.1, (((), ()), ()), x.1.2, (), ((), (), (), ()), ()), ((x.2.1, x.2.2.1, x.2.2.2.1, ()), ((), ()), (x.2.2.2.2.1, ()), ()), x.2.2.2.2.2, ())) (fun _ => rfl)
def f_grammar_reader_list_v624_0 (N : Nat) (c : (List UInt8) × Int) (next : ((List lex_Token) × Int × Int × Int × (List shape_Node)) → Option ((List shape_Node × List lex_Token × Int × Int) ⊕ (Int × Int × List lex_Token × Int × Int))) (v : (List lex_Token) × Int × Int × Int × (List shape_Node)) : Option ((List shape_Node × List lex_Token × Int × Int) ⊕ (Int × Int × List lex_Token × Int × Int)) := s_grammar_reader_list_v624_1 N (SS_grammar_reader_body_v927 N) c.1 c.2 (fun u0 u1 u2 u3 u4 => next (u0, u1, u2, u3, u4)) v.1 v.2.1 v.2.2.1 v.2.2.2.1 v.2.2.2.2
abbrev r_grammar_reader_list_v624_0 (N : Nat) : ((List UInt8) × Int) × ((List lex_Token) × Int × Int × Int × (List shape_Node)) → Option ((List shape_Node × List lex_Token × Int × Int) ⊕ (Int × Int × List lex_Token × Int × Int)) := fun a => loopV (f_grammar_reader_list_v624_0 N a.1) N a.2
def C_grammar_reader_item_v927 : Con tb := .m 129 [false, true] (.c (.ptr 0 0) (.c (.i .i64) .n)) (.c (.c (.r 0) (.c (.i .i64) (.c (.i .i64) .n))) .n) .n (fun N a => s_grammar_reader_item_v927 N a.1.2.1 a.2.1.1.1 a.2.1.1.2.1 a.2.1.1.2.2.1) (R := (List shape_Node × List lex_Token × Int × Int) ⊕ (Int × Int × List lex_Token × Int × Int)) (.or (.m (R := List shape_Node × List lex_Token × Int × Int) (.r 5) (.c (.c (.r 0) (.c (.i .i64) (.c (.i .i64) .n))) .n) .n (fun z => (z.1, z.2.1.1.1, z.2.1.1.2.1, z.2.1.1.2.2.1)) (fun r => (r.1, ((r.2.1, r.2.2.1, r.2.2.2, ()), ()), ())) (fun _ => rfl)) (.m (R := Int × Int × List lex_Token × Int × Int) (.ifc 16777300 (.dp (.c (.i .i64) (.c (.i .i64) .n)))) (.c (.c (.r 0) (.c (.i .i64) (.c (.i .i64) .n))) .n) .n (fun z => (z.1.1, z.1.2.1, z.2.1.1.1, z.2.1.1.2.1, z.2.1.1.2.2.1)) (fun r => ((r.1, r.2.1, ()), ((r.2.2.1, r.2.2.2.1, r.2.2.2.2, ()), ()), ())) (fun _ => rfl)))
def C_shape_Word : Con tb := .s 46 [true] (.c (.i .u8) .n) (fun N a => s_shape_Word N a.1) (R := List UInt8) (.p .s) (fun _ => ⟨rfl, (by kernel_rfl)⟩)
def C_grammar_reader_mode_v424 : Con tb := .m 58 [false] (.c (.ptr 0 0) .n) (.c (.c (.r 0) (.c (.i .i64) (.c (.i .i64) .n))) .n) .n (fun N a => s_grammar_reader_mode_v424 N a.2.1.1.1 a.2.1.1.2.1 a.2.1.1.2.2.1) (R := (Int × List lex_Token × Int × Int) ⊕ (Int × Int × List lex_Token × Int × Int)) (.or (.m (R := Int × List lex_Token × Int × Int) (.i .u8) (.c (.c (.r 0) (.c (.i .i64) (.c (.i .i64) .n))) .n) .n (fun z => (z.1, z.2.1.1.1, z.2.1.1.2.1, z.2.1.1.2.2.1)) (fun r => (r.1, ((r.2.1, r.2.2.1, r.2.2.2, ()), ()), ())) (fun _ => rfl)) (.m (R := Int × Int × List lex_Token × Int × Int) (.ifc 16777300 (.dp (.c (.i .i64) (.c (.i .i64) .n)))) (.c (.c (.r 0) (.c (.i .i64) (.c (.i .i64) .n))) .n) .n (fun z => (z.1.1, z.1.2.1, z.2.1.1.1, z.2.1.1.2.1, z.2.1.1.2.2.1)) (fun r => ((r.1, r.2.1, ()), ((r.2.2.1, r.2.2.2.1, r.2.2.2.2, ()), ()), ())) (fun _ => rfl)))
def q_grammar_reader_mode_v424_0 : LQ tb ((Unit) × (Int × (List lex_Token) × Int × Int)) := (LQ.m [] [0, 3] (.c 0 (.ptr 0 0) (.c 3 (.i .u8) .n)) (.c (.c (.r 0) (.c (.i .i64) (.c (.i .i64) .n))) .n) .n).re (fun a => ((), (a.1.2.1, a.2.1.1.1, a.2.1.1.2.1, a.2.1.1.2.2.1))) (fun x => (((), x.2.1, ()), ((x.2.2.1, x.2.2.2.1, x.2.2.2.2, ()), ()), ())) (fun _ => rfl)
def f_grammar_reader_mode_v424_0 (N : Nat) (c : Unit) (next : (Int × (List lex_Token) × Int × Int) → Option ((Int × List lex_Token × Int × Int) ⊕ (Int × Int × List lex_Token × Int × Int))) (v : Int × (List lex_Token) × Int × Int) : Option ((Int × List lex_Token × Int × Int) ⊕ (Int × Int × List lex_Token × Int × Int)) := s_grammar_reader_mode_v424_1 N (fun u0 u1 u2 u3 => next (u0, u1, u2, u3)) v.1 v.2.1 v.2.2.1 v.2.2.2
abbrev r_grammar_reader_mode_v424_0 (N : Nat) : (Unit) × (Int × (List lex_Token) × Int × Int) → Option ((Int × List lex_Token × Int × Int) ⊕ (Int × Int × List lex_Token × Int × Int)) := fun a => loopV (f_grammar_reader_mode_v424_0 N a.1) N a.2
def C_grammar_reader_patternB_v424 : Con tb := .m 22 [false] (.c (.ptr 0 0) .n) (.c (.c (.r 0) (.c (.i .i64) (.c (.i .i64) .n))) .n) .n (fun N a => s_grammar_reader_patternB_v424 N a.2.1.1.1 a.2.1.1.2.1 a.2.1.1.2.2.1) (R := (shape_Pattern × List lex_Token × Int × Int) ⊕ (Int × Int × List lex_Token × Int × Int)) (.or (.m (R := shape_Pattern × List lex_Token × Int × Int) (.tu (.c (.el tb_ok 6) (.c .ni .n))) (.c (.c (.r 0) (.c (.i .i64) (.c (.i .i64) .n))) .n) .n (fun z => (z.1.1, z.2.1.1.1, z.2.1.1.2.1, z.2.1.1.2.2.1)) (fun r => ((r.1, (), ()), ((r.2.1, r.2.2.1, r.2.2.2, ()), ()), ())) (fun _ => rfl)) (.m (R := Int × Int × List lex_Token × Int × Int) (.ifc 16777300 (.dp (.c (.i .i64) (.c (.i .i64) .n)))) (.c (.c (.r 0) (.c (.i .i64) (.c (.i .i64) .n))) .n) .n (fun z => (z.1.1, z.1.2.1, z.2.1.1.1, z.2.1.1.2.1, z.2.1.1.2.2.1)) (fun r => ((r.1, r.2.1, ()), ((r.2.2.1, r.2.2.2.1, r.2.2.2.2, ()), ()), ())) (fun _ => rfl)))
def C_grammar_reader_pattern_v424 : Con tb := .m 22 [false] (.c (.ptr 0 0) .n) (.c (.c (.r 0) (.c (.i .i64) (.c (.i .i64) .n))) .n) .n (fun N a => s_grammar_reader_pattern_v424 N a.2.1.1.1 a.2.1.1.2.1 a.2.1.1.2.2.1) (R := (shape_Pattern × List lex_Token × Int × Int) ⊕ (shape_Pattern × Int × Int × List lex_Token × Int × Int)) (.or (.m (R := shape_Pattern × List lex_Token × Int × Int) (.tu (.c (.el tb_ok 6) (.c .ni .n))) (.c (.c (.r 0) (.c (.i .i64) (.c (.i .i64) .n))) .n) .n (fun z => (z.1.1, z.2.1.1.1, z.2.1.1.2.1, z.2.1.1.2.2.1)) (fun r => ((r.1, (), ()), ((r.2.1, r.2.2.1, r.2.2.2, ()), ()), ())) (fun _ => rfl)) (.m (R := shape_Pattern × Int × Int × List lex_Token × Int × Int) (.tu (.c (.el tb_ok 6) (.o (.ifc 84 (.dp (.c (.i .i64) (.c (.i .i64) .n))))))) (.c (.c (.r 0) (.c (.i .i64) (.c (.i .i64) .n))) .n) .n (fun z => (z.1.1, z.1.2.1, z.1.2.2.1, z.2.1.1.1, z.2.1.1.2.1, z.2.1.1.2.2.1)) (fun r => ((r.1, r.2.1, r.2.2.1, ()), ((r.2.2.2.1, r.2.2.2.2.1, r.2.2.2.2.2, ()), ()), ())) (fun _ => rfl)))
def C_shape_Node_list : Con tb := .s 76 [true] (.c (.el tb_ok 5) .n) (fun N a => s_shape_Node_list N a.1) (R := Bool) (.p .b) (fun _ => ⟨rfl, (by kernel_rfl)⟩)
def C_shape_Node_stands : Con tb := .s 79 [true, true] (.c (.el tb_ok 5) (.c (.i .u8) .n)) (fun N a => s_shape_Node_stands N a.1 a.2.1) (R := Bool) (.p .b) (fun _ => ⟨rfl, (by kernel_rfl)⟩)
def C_shape_Node_often : Con tb := .s 116 [true] (.c (.el tb_ok 5) .n) (fun N a => s_shape_Node_often N a.1) (R := Bool) (.p .b) (fun _ => ⟨rfl, (by kernel_rfl)⟩)
def C_shape_Node_lacks : Con tb := .s 80 [true] (.c (.el tb_ok 5) .n) (fun N a => s_shape_Node_lacks N a.1) (R := Bool) (.p .b) (fun _ => ⟨rfl, (by kernel_rfl)⟩)
def C_shape_Node_leaf : Con tb := .s 41 [true] (.c (.el tb_ok 5) .n) (fun N a => s_shape_Node_leaf N a.1) (R := Bool) (.p .b) (fun _ => ⟨rfl, (by kernel_rfl)⟩)
def C_shape_Node_more : Con tb := .s 81 [true] (.c (.el tb_ok 5) .n) (fun N a => s_shape_Node_more N a.1) (R := Bool) (.p .b) (fun _ => ⟨rfl, (by kernel_rfl)⟩)
def C_shape_Node_kids : Con tb := .s 43 [true] (.c (.el tb_ok 5) .n) (fun N a => s_shape_Node_kids N a.1) (R := Int) (.p (.i .i64)) (fun _ => ⟨rfl, (by kernel_rfl)⟩)
def C_shape_tree : Con tb := .p 47 [true, true, true] (.c (.r 5) (.c (.i .u8) (.c (.i .i64) .n))) (fun N a => s_shape_tree N a.1 a.2.1 a.2.2.1) (R := List shape_Node × Int) (.p (.tu (.c (.r 5) (.o (.i .i64))))) (fun _ => rfl)
def q_shape_tree_1 : LQ tb ((Int × Int × Int × Int × Int × Int × (List UInt8) × (List UInt8) × (List pred_Node)) × ((List shape_Node) × Int)) := (LQ.m [] [2, 8, 9, 42, 43] (.c 2 (.i .i64) (.c 8 (.ptr 0 0) (.c 9 (.r 5) (.c 42 (.i .i64) (.c 43 (.i .i64) .n))))) (.c (.c (.i .u8) (.c (.i .i64) (.c (.i .i64) (.c (.i .i64) (.c .s (.c .s (.c (.r 3) .n))))))) .n) .n).re (fun a => ((a.1.1, a.1.2.2.2.1, a.2.1.1.1, a.2.1.1.2.1, a.2.1.1.2.2.1, a.2.1.1.2.2.2.1, a.2.1.1.2.2.2.2.1, a.2.1.1.2.2.2.2.2.1, a.2.1.1.2.2.2.2.2.2.1), (a.1.2.2.1, a.1.2.2.2.2.1))) (fun x => ((x.1.1, (), x.2.1, x.1.2.1, x.2.2, ()), ((x.1.2.2.1, x.1.2.2.2.1, x.1.2.2.2.2.1, x.1.2.2.2.2.2.1, x.1.2.2.2.2.2.2.1, x.1.2.2.2.2.2.2.2.1, x.1.2.2.2.2.2.2.2.2, ()), ()), ())) (fun _ => rfl)
def f_shape_tree_1 (N : Nat) (c : Int × Int × Int × Int × Int × Int × (List UInt8) × (List UInt8) × (List pred_Node)) (next : ((List shape_Node) × Int) → Option (List shape_Node × Int)) (v : (List shape_Node) × Int) : Option (List shape_Node × Int) := s_shape_tree_1 N (SS_shape_tree N) c.1 c.2.1 c.2.2.1 (fun u0 u1 => next (u0, u1)) v.1 v.2
abbrev r_shape_tree_1 (N : Nat) : (Int × Int × Int × Int × Int × Int × (List UInt8) × (List UInt8) × (List pred_Node)) × ((List shape_Node) × Int) → Option (List shape_Node × Int) := fun a => loopV (f_shape_tree_1 N a.1) N a.2
def C_shape_Check : Con tb := .s 19 [true] (.c (.el tb_ok 6) .n) (fun N a => s_shape_Check N a.1) (R := Int) (.p (.i .i64)) (fun _ => ⟨rfl, (by kernel_rfl)⟩)
def C_grammar_Parse : Con tb := .p 9 [true] (.c .s .n) (fun N a => s_grammar_Parse N a.1) (R := shape_Pattern ⊕ (shape_Pattern × Int × Int)) (.or (.m (R := shape_Pattern) (.tu (.c (.el tb_ok 6) (.c .ni .n))) .n .n (fun z => z.1.1) (fun r => ((r, (), ()), (), ())) (fun _ => rfl)) (.m (R := shape_Pattern × Int × Int) (.tu (.c (.el tb_ok 6) (.o (.ifc 84 (.dp (.c (.i .i64) (.c (.i .i64) .n))))))) .n .n (fun z => (z.1.1, z.1.2.1, z.1.2.2.1)) (fun r => ((r.1, r.2.1, r.2.2, ()), (), ())) (fun _ => rfl))) (fun r => by rcases r with _ | _ <;> exact rfl)
def C_fault_Code_n : Con tb := .s 14 [false] (.c .ni .n) (fun N a => s_fault_Code_n N) (R := Int) (.p (.i .i64)) (fun _ => ⟨rfl, (by kernel_rfl)⟩)
def C_fault_find_n : Con tb := .s 35 [false] (.c .ni .n) (fun N a => s_fault_find_n N) (R := Unit) (.p .np) (fun _ => ⟨rfl, (by kernel_rfl)⟩)
def C_fault_At_n : Con tb := .s 15 [false] (.c .ni .n) (fun N a => s_fault_At_n N) (R := Int) (.p (.i .i64)) (fun _ => ⟨rfl, (by kernel_rfl)⟩)
def C_pred_bound : Con tb := .s 161 [true] (.c (.i .u8) .n) (fun N a => s_pred_bound N a.1) (R := Int) (.p (.i .i64)) (fun _ => ⟨rfl, (by kernel_rfl)⟩)
def C_lex_whole : Con tb := .s 113 [true] (.c (.i .i64) .n) (fun N a => s_lex_whole N a.1) (R := List UInt8) (.p .s) (fun _ => ⟨rfl, (by kernel_rfl)⟩)
def C_lex_bits : Con tb := .s 114 [true] (.c (.i .u64) .n) (fun N a => s_lex_bits N a.1) (R := List UInt8) (.p .s) (fun _ => ⟨rfl, (by kernel_rfl)⟩)
def C_lex_text : Con tb := .s 115 [true] (.c .s .n) (fun N a => s_lex_text N a.1) (R := List UInt8) (.p .s) (fun _ => ⟨rfl, (by kernel_rfl)⟩)
def C_lex_Literal : Con tb := .s 77 [true] (.c (.el tb_ok 1) .n) (fun N a => s_lex_Literal N a.1) (R := List UInt8) (.p .s) (fun _ => ⟨rfl, (by kernel_rfl)⟩)
def C_pred_printer_tree_v501 : Con tb := .m 111 [false] (.c (.ptr 0 0) .n) (.c (.c (.r 3) (.c (.i .i64) .n)) .n) .n (fun N a => s_pred_printer_tree_v501 N a.2.1.1.1 a.2.1.1.2.1) (R := List UInt8 × List pred_Node × Int) (.m (R := List UInt8 × List pred_Node × Int) .s (.c (.c (.r 3) (.c (.i .i64) .n)) .n) .n (fun z => (z.1, z.2.1.1.1, z.2.1.1.2.1)) (fun r => (r.1, ((r.2.1, r.2.2, ()), ()), ())) (fun _ => rfl))
def C_pred_printer_two_v304 : Con tb := .m 141 [false, true, true, true] (.c (.ptr 0 0) (.c .s (.c (.i .i64) (.c (.i .i64) .n)))) (.c (.c (.r 3) (.c (.i .i64) .n)) .n) .n (fun N a => s_pred_printer_two_v304 N a.1.2.1 a.1.2.2.1 a.1.2.2.2.1 a.2.1.1.1 a.2.1.1.2.1) (R := List UInt8 × List pred_Node × Int) (.m (R := List UInt8 × List pred_Node × Int) .s (.c (.c (.r 3) (.c (.i .i64) .n)) .n) .n (fun z => (z.1, z.2.1.1.1, z.2.1.1.2.1)) (fun r => (r.1, ((r.2.1, r.2.2, ()), ()), ())) (fun _ => rfl))
def C_pred_printer_within_v996 : Con tb := .m 142 [false, true] (.c (.ptr 0 0) (.c (.i .i64) .n)) (.c (.c (.r 3) (.c (.i .i64) .n)) .n) .n (fun N a => s_pred_printer_within_v996 N a.1.2.1 a.2.1.1.1 a.2.1.1.2.1) (R := List UInt8 × List pred_Node × Int) (.m (R := List UInt8 × List pred_Node × Int) .s (.c (.c (.r 3) (.c (.i .i64) .n)) .n) .n (fun z => (z.1, z.2.1.1.1, z.2.1.1.2.1)) (fun r => (r.1, ((r.2.1, r.2.2, ()), ()), ())) (fun _ => rfl))
def C_pred_Print : Con tb := .s 75 [true] (.c (.r 3) .n) (fun N a => s_pred_Print N a.1) (R := List UInt8) (.p .s) (fun _ => ⟨rfl, (by kernel_rfl)⟩)
def C_shape_Node_text : Con tb := .s 42 [true] (.c (.el tb_ok 5) .n) (fun N a => s_shape_Node_text N a.1) (R := List UInt8) (.p .s) (fun _ => ⟨rfl, (by kernel_rfl)⟩)
def C_shape_digits : Con tb := .s 45 [true] (.c (.i .i64) .n) (fun N a => s_shape_digits N a.1) (R := List UInt8) (.p .s) (fun _ => ⟨rfl, (by kernel_rfl)⟩)
def C_shape_Node_times : Con tb := .s 44 [true] (.c (.el tb_ok 5) .n) (fun N a => s_shape_Node_times N a.1) (R := List UInt8) (.p .s) (fun _ => ⟨rfl, (by kernel_rfl)⟩)
def C_shape_Print_L1_v949 : Con tb := .m 40 [true, false, false, false] (.c (.i .u8) (.c (.ptr 0 0) (.c (.ptr 1 0) (.c (.ptr 2 0) .n)))) (.c (.c (.r 5) (.c (.i .i64) (.c .s (.c (.i .u8) .n)))) (.c (.c (.i .i64) .n) (.c (.c (.fn 40 .n (.c (.ptr 0 0) (.c (.ptr 1 0) (.c (.ptr 2 0) .n)))) .n) .n))) .n (fun N a => s_shape_Print_L1_v949 N a.1.1 a.2.1.1.1 a.2.1.1.2.1 a.2.1.1.2.2.1 a.2.1.1.2.2.2.1 a.2.1.2.1.1) (R := List UInt8 × List shape_Node × Int × List UInt8 × Int × Int) (.m (R := List UInt8 × List shape_Node × Int × List UInt8 × Int × Int) .s (.c (.c (.r 5) (.c (.i .i64) (.c .s (.c (.i .u8) .n)))) (.c (.c (.i .i64) .n) (.c (.c (.fn 40 .n (.c (.ptr 0 0) (.c (.ptr 1 0) (.c (.ptr 2 0) .n)))) .n) .n))) .n (fun z => (z.1, z.2.1.1.1, z.2.1.1.2.1, z.2.1.1.2.2.1, z.2.1.1.2.2.2.1, z.2.1.2.1.1)) (fun r => (r.1, ((r.2.1, r.2.2.1, r.2.2.2.1, r.2.2.2.2.1, ()), (r.2.2.2.2.2, ()), (((), (), (), (), ()), ()), ()), ())) (fun _ => rfl))
def q_shape_Print_L1_v949_0 : LQ tb ((Int × Int × Int × Int × Int × Int × (List UInt8) × (List UInt8) × (List pred_Node)) × ((List UInt8) × (List UInt8) × Int × (List shape_Node) × Int × (List UInt8) × Int × Int)) := (LQ.m [] [0, 3, 6, 7, 8, 29, 30] (.c 0 (.i .u8) (.c 3 (.ptr 2 0) (.c 6 (.ptr 3 0) (.c 7 .s (.c 8 .s (.c 29 (.i .i64) (.c 30 (.i .i64) .n))))))) (.c (.c (.r 5) (.c (.i .i64) (.c .s (.c (.i .u8) .n)))) (.c (.c (.i .i64) .n) (.c (.c (.fn 40 .n (.c (.ptr 0 0) (.c (.ptr 1 0) (.c (.ptr 2 0) .n)))) .n) (.c (.c (.i .u8) (.c (.i .i64) (.c (.i .i64) (.c (.i .i64) (.c .s (.c .s (.c (.r 3) .n))))))) .n)))) .n).re (fun a => ((a.1.1, a.1.2.2.2.2.2.1, a.2.1.2.2.2.1.1, a.2.1.2.2.2.1.2.1, a.2.1.2.2.2.1.2.2.1, a.2.1.2.2.2.1.2.2.2.1, a.2.1.2.2.2.1.2.2.2.2.1, a.2.1.2.2.2.1.2.2.2.2.2.1, a.2.1.2.2.2.1.2.2.2.2.2.2.1), (a.1.2.2.2.1, a.1.2.2.2.2.1, a.1.2.2.2.2.2.2.1, a.2.1.1.1, a.2.1.1.2.1, a.2.1.1.2.2.1, a.2.1.1.2.2.2.1, a.2.1.2.1.1))) (fun x => ((x.1.1, (), (), x.2.1, x.2.2.1, x.1.2.1, x.2.2.2.1, ()), ((x.2.2.2.2.1, x.2.2.2.2.2.1, x.2.2.2.2.2.2.1, x.2.2.2.2.2.2.2.1, ()), (x.2.2.2.2.2.2.2.2, ()), (((), (), (), (), ()), ()), (x.1.2.2.1, x.1.2.2.2.1, x.1.2.2.2.2.1, x.1.2.2.2.2.2.1, x.1.2.2.2.2.2.2.1, x.1.2.2.2.2.2.2.2.1, x.1.2.2.2.2.2.2.2.2, ()), ()), ())) (fun _ => rfl)
def f_shape_Print_L1_v949_0 (N : Nat) (c : Int × Int × Int × Int × Int × Int × (List UInt8) × (List UInt8) × (List pred_Node)) (next : ((List UInt8) × (List UInt8) × Int × (List shape_Node) × Int × (List UInt8) × Int × Int) → Option (List UInt8 × List shape_Node × Int × List UInt8 × Int × Int)) (v : (List UInt8) × (List UInt8) × Int × (List shape_Node) × Int × (List UInt8) × Int × Int) : Option (List UInt8 × List shape_Node × Int × List UInt8 × Int × Int) := s_shape_Print_L1_v949_1 N (SS_shape_Print_L1_v949 N) c.1 c.2.1 c.2.2.1 c.2.2.2.1 c.2.2.2.2.1 c.2.2.2.2.2.1 c.2.2.2.2.2.2.1 c.2.2.2.2.2.2.2.1 c.2.2.2.2.2.2.2.2 (fun u0 u1 u2 u3 u4 u5 u6 u7 => next (u0, u1, u2, u3, u4, u5, u6, u7)) v.1 v.2.1 v.2.2.1 v.2.2.2.1 v.2.2.2.2.1 v.2.2.2.2.2.1 v.2.2.2.2.2.2.1 v.2.2.2.2.2.2.2
abbrev r_shape_Print_L1_v949_0 (N : Nat) : (Int × Int × Int × Int × Int × Int × (List UInt8) × (List UInt8) × (List pred_Node)) × ((List UInt8) × (List UInt8) × Int × (List shape_Node) × Int × (List UInt8) × Int × Int) → Option (List UInt8 × List shape_Node × Int × List UInt8 × Int × Int) := fun a => loopV (f_shape_Print_L1_v949_0 N a.1) N a.2
def C_shape_Print : Con tb := .s 18 [true] (.c (.el tb_ok 6) .n) (fun N a => s_shape_Print N a.1) (R := List UInt8) (.p .s) (fun _ => ⟨rfl, (by kernel_rfl)⟩)
def C_fault_find_f : Con tb := .p 35 [false] (.c (.ifc 84 (.dp (.c (.i .i64) (.c (.i .i64) .n)))) .n) (fun N a => s_fault_find_f N a.1.1 a.1.2.1) (R := Int × Int) (.m (R := Int × Int) (.dp (.c (.i .i64) (.c (.i .i64) .n))) .n .n (fun z => (z.1.1, z.1.2.1)) (fun r => ((r.1, r.2, ()), (), ())) (fun _ => rfl)) (fun _ => rfl)
def C_fault_Code_f : Con tb := .s 14 [false] (.c (.ifc 84 (.dp (.c (.i .i64) (.c (.i .i64) .n)))) .n) (fun N a => s_fault_Code_f N a.1.1 a.1.2.1) (R := Int) (.p (.i .i64)) (fun _ => ⟨rfl, (by kernel_rfl)⟩)
def C_fault_At_f : Con tb := .s 15 [false] (.c (.ifc 84 (.dp (.c (.i .i64) (.c (.i .i64) .n)))) .n) (fun N a => s_fault_At_f N a.1.1 a.1.2.1) (R := Int) (.p (.i .i64)) (fun _ => ⟨rfl, (by kernel_rfl)⟩)
def C_law14_awake : Con tb := .s 8 [] .n (fun N a => s_law14_awake N) (R := Bool) (.p .b) (fun _ => ⟨rfl, (by kernel_rfl)⟩)
def C_law14_GrammarDeep : Con tb := .s 4 [true, true] (.c (.i .u8) (.c (.i .u8) .n)) (fun N a => s_law14_GrammarDeep N a.1 a.2.1) (R := Bool) (.p .b) (fun _ => ⟨rfl, (by kernel_rfl)⟩)
def q_law14_GrammarDeep_0 : LQ tb ((Int × Int) × ((List UInt8) × Int)) := (LQ.m [] [5, 6, 7, 8, 9] (.c 5 (.i .i64) (.c 6 (.i .i64) (.c 7 .s (.c 8 (.ls []) (.c 9 (.i .i64) .n))))) .n .n).re (fun a => ((a.1.1, a.1.2.1), (a.1.2.2.1, a.1.2.2.2.2.1))) (fun x => ((x.1.1, x.1.2, x.2.1, (), x.2.2, ()), (), ())) (fun _ => rfl)
def q_law14_GrammarDeep_2 : LQ tb ((Int × Int × (List UInt8)) × ((List UInt8) × Int)) := (LQ.m [] [5, 6, 7, 8, 10] (.c 5 (.i .i64) (.c 6 (.i .i64) (.c 7 .s (.c 8 .s (.c 10 (.i .i64) .n))))) .n .n).re (fun a => ((a.1.1, a.1.2.1, a.1.2.2.1), (a.1.2.2.2.1, a.1.2.2.2.2.1))) (fun x => ((x.1.1, x.1.2.1, x.1.2.2, x.2.1, x.2.2, ()), (), ())) (fun _ => rfl)
def f_law14_GrammarDeep_2 (N : Nat) (c : Int × Int × (List UInt8)) (next : ((List UInt8) × Int) → Option Bool) (v : (List UInt8) × Int) : Option Bool := s_law14_GrammarDeep_2 N c.1 c.2.1 c.2.2 (fun u0 u1 => next (u0, u1)) v.1 v.2
abbrev r_law14_GrammarDeep_2 (N : Nat) : (Int × Int × (List UInt8)) × ((List UInt8) × Int) → Option Bool := fun a => loopV (f_law14_GrammarDeep_2 N a.1) N a.2
def f_law14_GrammarDeep_0 (N : Nat) (c : Int × Int) (next : ((List UInt8) × Int) → Option Bool) (v : (List UInt8) × Int) : Option Bool := s_law14_GrammarDeep_1 N c.1 c.2 (fun u0 u1 => next (u0, u1)) v.1 v.2
abbrev r_law14_GrammarDeep_0 (N : Nat) : (Int × Int) × ((List UInt8) × Int) → Option Bool := fun a => loopV (f_law14_GrammarDeep_0 N a.1) N a.2
end
end Go.Proofs.YtahklhniofiofaaGreatDoor.D
namespace Go.Proofs.YtahklhniofiofaaGreatDoor.D
open Go Go.RowKit Go.Extern.Stop Go.Stop Go.Extern Go.Proofs.Tryz
set_option maxHeartbeats 4000000
set_option maxRecDepth 1000000
theorem new_nil (p : Int) (w : World) : Calls Tryz.prog 23 #[.int .i64 0, .int .i64 p] w fun e w' => e = .returned .nilIface ∧ w' = w := by
  go_enter Tryz.func23, Tryz.ntmps23
  go_wp2
  go_ret
  exact ⟨rfl, rfl⟩
theorem new_some (n p : Int) (h : n ≠ 0) (w : World) : Calls Tryz.prog 23 #[.int .i64 n, .int .i64 p] w fun e w' => e = .returned (.iface 84 (.pointer (some ⟨w.heap.size, 0, none⟩))) ∧ w' = w.alloc (.cells #[.int .i64 n, .int .i64 p] 87) := by
  go_enter Tryz.func23, Tryz.ntmps23
  go_wp2
  go_ret
  exact ⟨rfl, rfl⟩
theorem c_fault_New (N : Nat) : C_fault_New.Ok prog N := by
  refine ⟨⟨Tryz.f23, Tryz.func23, by kernel_rfl, by kernel_rfl⟩, fun a r h => ?_⟩
  obtain ⟨n, p, ⟨⟩⟩ := a
  have h : s_fault_New N n p = some r := h
  intro M S w vs hh _ hsz hrep
  obtain ⟨v, u, rfl⟩ : ∃ v u, vs = #[v, u] := by
    match vs, hsz with
    | ⟨[v, u]⟩, _ => exact ⟨v, u, rfl⟩
  have h0 : v = .int .i64 n := VRep.v_eq (hrep 0 (Nat.zero_lt_succ 1))
  have h1 : u = .int .i64 p := VRep.v_eq (hrep 1 (Nat.lt_succ_self 1))
  subst h0; subst h1
  by_cases hn : n = 0
  · subst hn
    refine (new_nil p w).mono ?_
    rintro e w' ⟨rfl, rfl⟩
    have e1 : s_fault_New N 0 p = some (.inl ()) := rfl
    rw [e1] at h; obtain rfl := Option.some.inj h
    exact ⟨M, S, .data (.v _), hh, .refl hh⟩
  · refine (new_some n p hn w).mono ?_
    rintro e w' ⟨rfl, rfl⟩
    have e1 : s_fault_New N n p = some (.inr (n, p)) := by unfold s_fault_New; rw [show (n == 0) = false by simpa using hn]; rfl
    rw [e1] at h; obtain rfl := Option.some.inj h
    have hg := Grew.alloc w (.cells #[.int .i64 n, .int .i64 p] 87)
    obtain ⟨h3, h4⟩ := hh.addData hg (g := w.heap.size) (Nat.le_refl _) (by simp)
    refine ⟨M, _, .data (.ifc _ _ _ (.dptr w.heap.size 0 _ _ _ (0, 0) (.inr rfl) (push_new _ _) (Nat.le_refl 2) (fun j hj => ?_) fun j hj => ?_)), h3, h4⟩
    · match j, hj with
      | 0, _ => rfl
      | 1, _ => rfl
    · match j, hj with
      | 0, _ => exact .v _
      | 1, _ => exact .v _
end Go.Proofs.YtahklhniofiofaaGreatDoor.D
set_option linter.unusedVariables false
set_option linter.unusedSimpArgs false
namespace Go.Proofs.YtahklhniofiofaaGreatDoor.D
open Go Go.RowKit Go.Lib Go.Proofs.Tryz
set_option maxHeartbeats 4000000
set_option maxRecDepth 1000000
theorem grow_none (a : Option Addr) (w : World) : Calls Tryz.prog 199 #[.slice a 0 0, .int .i64 0] w fun e w' => e = .returned (.slice a 0 0) ∧ w' = w := by
  go_enter Tryz.func199, Tryz.ntmps199
  go_wp2
  go_ret
  exact ⟨rfl, rfl⟩
theorem grow_some (i0 : TypeInfo) (z : Value) (hu : Tryz.prog.underlying 44 = some (.slice 127)) (hi0 : Tryz.prog.info? 127 = some i0) (hz0 : i0.zero = some z) (hs0 : 0 < i0.size) (n : Nat) (h0 : 0 < n) (hbig : n * i0.bytes ≤ 140737488355328) (h63 : n ≤ 4611686018427387904) (a : Option Addr) (w : World) :
    Calls Tryz.prog 199 #[.slice a 0 0, .int .i64 n] w fun e w' => e = .returned (.slice (some ⟨w.heap.size, 0, none⟩) 0 (grownCap w n 0 127)) ∧
      w' = w.drew.alloc (.cells (#[] ++ Builtin.zeroCells z.cells n ++ Builtin.zeroCells z.cells (grownCap w n 0 127 - n)) 127) := by
  have h1 : ¬ ((n : Int) < 0) := by omega
  have h4 : (n : Int) > 0 := by omega
  have z25 : ∀ w, (Go.sizeOf 127).run Tryz.prog w = .ok i0.size w := fun w => by simp [Go.sizeOf, typeInfo, hi0]
  have hrz : ∀ ty, (Builtin.append_ #[44, 3] ty #[.slice a 0 0, .int .i64 n]).run Tryz.prog w =
      .ok (.slice (some ⟨w.heap.size, 0, none⟩) n (grownCap w n 0 127)) (w.drew.alloc (.cells (#[] ++ Builtin.zeroCells z.cells n ++ Builtin.zeroCells z.cells (grownCap w n 0 127 - n)) 127)) := fun ty => by
    have hold : (Builtin.firstCells i0.size 0 (.slice a 0 0)).run Tryz.prog w.drew = .ok ([] : List Value).toArray w.drew := by
      cases a with
      | none => exact run_firstCells_none w.drew i0.size 0 0 0
      | some a => exact run_firstCells_some w.drew i0.size 0 a 0 0 [] (by simp) (fun j v hj => by cases hj)
    have h := Lib.run_append_grow_zeros w 44 3 ty 127 i0 z .i64 .i64 hu Tryz.underlying3 hi0 hz0 a 0 0 [] hold n h0 hs0 (by omega) (by omega) (by omega) (by
      rw [Nat.zero_add]; exact growslice_fits (by omega) (by omega))
    rw [Nat.zero_add] at h
    exact h
  have hGn : n ≤ grownCap w n 0 127 := grownCap_ge w _ _ _
  obtain ⟨G, hG⟩ : ∃ G, G = grownCap w n 0 127 := ⟨_, rfl⟩
  rw [← hG] at hrz hGn ⊢
  have hG63 : G ≤ 9223372036854775807 := by
    have := grownCap_le_maxLen w n 0 127 (by unfold maxLen; omega)
    rw [← hG] at this
    unfold maxLen at this
    omega
  clear hG
  go_enter Tryz.func199, Tryz.ntmps199
  cases a with
  | none =>
    go_wp2_with (at_builtin; refine Lib.wpList_append_run _ rfl _ _ _ _ rfl _ _ rfl rfl _ _ (hrz _) ?_)
    all_goals (go_ret; exact ⟨rfl, rfl⟩)
  | some a =>
    obtain ⟨ab, ao, asp⟩ := a
    go_wp2_with (at_builtin; refine Lib.wpList_append_run _ rfl _ _ _ _ rfl _ _ rfl rfl _ _ (hrz _) ?_)
    all_goals (go_ret; exact ⟨rfl, rfl⟩)
theorem c_slices_Grow_pred_Node_own (N : Nat) : C_slices_Grow_pred_Node_own.Ok prog N := by
  refine ⟨⟨Tryz.f199, Tryz.func199, by kernel_rfl, by kernel_rfl⟩, fun a r h => ?_⟩
  obtain ⟨⟨⟨⟩, n, ⟨⟩⟩, ⟨⟩, ⟨⟩⟩ := a
  have h : s_slices_Grow_pred_Node_own N n = some r := h
  unfold s_slices_Grow_pred_Node_own at h
  obtain ⟨hn0, h⟩ := gd_some h
  obtain ⟨hnb, h⟩ := gd_some h
  have hn0 := leB_iff.1 hn0
  have hnb := leB_iff.1 hnb
  obtain rfl := Option.some.inj h
  intro M S w vs hh _ hsz hrep
  obtain ⟨v, u, rfl⟩ : ∃ v u, vs = #[v, u] := by
    match vs, hsz with
    | ⟨[v, u]⟩, _ => exact ⟨v, u, rfl⟩
  obtain ⟨ad, rfl⟩ : ∃ ad, v = .slice ad 0 0 := by
    have q : VRep M S w v .emp := hrep 0 (Nat.zero_lt_succ 1)
    cases q with
    | data q => cases q; exact ⟨_, rfl⟩
  have e1 : u = .int .i64 n := VRep.v_eq (hrep 1 (Nat.lt_succ_self 1))
  subst e1
  obtain ⟨m, rfl⟩ : ∃ m : Nat, n = m := ⟨n.toNat, by omega⟩
  have fin : ∀ (g : Value) (w' : World), Grew w w' → LiveRep S w' g 8 [] → (∀ b, Value.blk g = some b → w.heap.size ≤ b) → (∃ a n c, g = .slice a n c) →
      ∃ M' S', EndRep M' S' w' (.returned g) (.ret (.own 0)) ∧ RelH M' S' ⟨[], [.live 8 []]⟩ w' ∧ Frm M S AH.nil w M' S' ⟨[], [.live 8 []]⟩ w' := by
    intro g w' hg hl hb hs
    obtain ⟨h1, h2⟩ := hh.addTok hg hl hb
    exact ⟨_, S, rep_newTok hh.nt hs, h1, h2⟩
  by_cases hm : m = 0
  · subst hm
    refine (grow_none ad w).mono ?_
    rintro e w' ⟨rfl, rfl⟩
    exact fin _ _ (.refl _) (.inl ⟨⟨_, rfl⟩, rfl⟩) (fun b hb => by cases ad <;> cases hb) ⟨_, _, _, rfl⟩
  · obtain ⟨ks, x, hx⟩ : ∃ ks x, cMk prog 44 ks = some (x, 8, 80) := ⟨[0, 0, 0, 0, 0, 0, 0, 0], eA3 (pred_Node.mk 0 0 [] [] (value_Value.mk 0 0 0 [])), by kernel_rfl⟩
    obtain ⟨e, i, z, hu, hi, hz, q1, q2, q3, q4, hx⟩ := cMk_some hx
    simp only [Prod.mk.injEq] at hx
    obtain ⟨-, hs8, hb80⟩ := hx
    have he : e = 127 := by
      have : prog.underlying 44 = some (.slice 127) := by kernel_rfl
      rw [this] at hu; cases hu; rfl
    subst he
    refine (grow_some i z hu hi hz q3 m (by omega) (by rw [← hb80]; omega) (by omega) ad w).mono ?_
    rintro e w' ⟨rfl, rfl⟩
    have hge := grownCap_ge w m 0 127
    have hle := grownCap_le_maxLen w m 0 127 (by unfold maxLen; omega)
    have hG := Grew.drew_alloc w (.cells (#[] ++ Builtin.zeroCells z.cells m ++ Builtin.zeroCells z.cells (grownCap w m 0 127 - m)) 127)
    generalize grownCap w m 0 127 = G at *
    obtain ⟨q, rfl⟩ : ∃ q, G = q + 1 := ⟨G - 1, by omega⟩
    refine fin _ _ hG (.inr ⟨w.heap.size, q, _, 127, rfl, fun h => by have := hh.sits _ h; omega, push_new _ _, ⟨Nat.zero_le _, hle, ?_, fun i hi => absurd hi (Nat.not_lt_zero _), fun i hi => absurd hi (Nat.not_lt_zero _), fun i hi => absurd hi (Nat.not_lt_zero _)⟩⟩) (fun b hb => by cases hb; exact Nat.le_refl _) ⟨_, _, _, rfl⟩
    rw [Array.size_append, Array.size_append, size_zeroCells, size_zeroCells, q2, ← hs8, Array.size_empty]
    omega
end Go.Proofs.YtahklhniofiofaaGreatDoor.D
set_option linter.unusedVariables false
set_option linter.unusedSimpArgs false
namespace Go.Proofs.YtahklhniofiofaaGreatDoor.D
open Go Go.RowKit Go.Proofs.Tryz
set_option maxHeartbeats 4000000
set_option maxRecDepth 1000000
theorem agg_vals {M : Maps} {S : Nat → Prop} {w : World} {v : Value} {l : List Value} (h : VRep M S w v (.agg (l.map .v))) : v = .agg l.toArray := by
  have key : ∀ vs : Array Value, vs.size = (l.map AV.v).length → (∀ i, i < (l.map AV.v).length → VRep M S w (vs.getD i undef) ((l.map AV.v).getD i .any)) → vs = l.toArray := fun vs hn hall => by
    rw [List.length_map] at hn
    refine Array.ext (by simpa using hn) fun i h1 h2 => ?_
    have hi : i < l.length := by omega
    have q := hall i (by simpa using hi)
    rw [show (l.map AV.v).getD i .any = .v l[i] by simp [List.getD, hi]] at q
    have := q.v_eq
    simpa [Array.getD, h1] using this
  cases h with
  | data h => cases h with | agg vs _ hn hall => exact congrArg _ (key vs hn fun i hi => .data (hall i hi))
  | agg vs _ hn hall => exact congrArg _ (key vs hn hall)
theorem grew_two (w : World) (a b : Obj) : Grew w ((w.alloc a).alloc b) := ⟨rfl, rfl, rfl, by simp; omega, fun g h => (push_old _ _ g (by simp; omega)).trans (push_old _ _ g h)⟩
theorem grew_two_d (w : World) (a b : Obj) : Grew w ((w.alloc a).alloc b).drew := ⟨rfl, rfl, rfl, by simp; omega, fun g h => (push_old _ _ g (by simp; omega)).trans (push_old _ _ g h)⟩
theorem bs_nil (l : List UInt8) : (bs l).toList = [] ↔ l = [] := by simp [bs]
theorem more_4 (o vk vn vb : Int) (va na vt : List UInt8) (w : World) :
    Calls Tryz.prog 158 #[.agg #[.int .u8 4, .int .u8 o, .string (bs va), .string (bs na), .int .u8 vk, .int .i64 vn, .int .u64 vb, .string (bs vt)]] w fun e w' => (∃ b, e = .returned (.bool b) ∧ (b = false ↔ (va = [] ∧ na = [] ∧ 0 = vk ∧ 0 = vn ∧ 0 = vb ∧ vt = []))) ∧ Grew w w' := by
  rw [← bs_nil vt, ← bs_nil va, ← bs_nil na]
  go_enter Tryz.func158, Tryz.ntmps158
  go_wp2
  all_goals
    go_ret
    refine ⟨⟨_, rfl, ?_⟩, grew_two _ _ _⟩
    simp_all
theorem more_7 (o vk vn vb : Int) (va na vt : List UInt8) (w : World) :
    Calls Tryz.prog 158 #[.agg #[.int .u8 7, .int .u8 o, .string (bs va), .string (bs na), .int .u8 vk, .int .i64 vn, .int .u64 vb, .string (bs vt)]] w fun e w' => (∃ b, e = .returned (.bool b) ∧ (b = false ↔ (0 = o ∧ va = [] ∧ 0 = vk ∧ 0 = vn ∧ 0 = vb ∧ vt = []))) ∧ Grew w w' := by
  rw [← bs_nil vt, ← bs_nil va]
  go_enter Tryz.func158, Tryz.ntmps158
  go_wp2
  all_goals
    go_ret
    refine ⟨⟨_, rfl, ?_⟩, grew_two _ _ _⟩
    simp_all
theorem more_8 (o vk vn vb : Int) (va na vt : List UInt8) (w : World) :
    Calls Tryz.prog 158 #[.agg #[.int .u8 8, .int .u8 o, .string (bs va), .string (bs na), .int .u8 vk, .int .i64 vn, .int .u64 vb, .string (bs vt)]] w fun e w' => (∃ b, e = .returned (.bool b) ∧ (b = false ↔ (0 = o ∧ 0 = vk ∧ 0 = vn ∧ 0 = vb ∧ vt = []))) ∧ Grew w w' := by
  rw [← bs_nil vt]
  go_enter Tryz.func158, Tryz.ntmps158
  go_wp2
  go_region_held3 (fun w' => w'.cell? ⟨w.heap.size, 2, none⟩ = some (.string (bs va)) ∧ w'.cell? ⟨w.heap.size, 3, none⟩ = some (.string (bs na))) (go_keep) (fail)
  go_wp2
  all_goals
    go_ret
    refine ⟨⟨_, rfl, ?_⟩, grew_two_d _ _ _⟩
    simp_all
theorem more_9 (o vk vn vb : Int) (va na vt : List UInt8) (w : World) :
    Calls Tryz.prog 158 #[.agg #[.int .u8 9, .int .u8 o, .string (bs va), .string (bs na), .int .u8 vk, .int .i64 vn, .int .u64 vb, .string (bs vt)]] w fun e w' => (∃ b, e = .returned (.bool b) ∧ (b = false ↔ (0 = o ∧ va = [] ∧ na = []))) ∧ Grew w w' := by
  rw [← bs_nil va, ← bs_nil na]
  go_enter Tryz.func158, Tryz.ntmps158
  go_wp2
  all_goals
    go_ret
    refine ⟨⟨_, rfl, ?_⟩, grew_two _ _ _⟩
    simp_all
theorem more_k (k : Int) (h4 : ¬ k = 4) (h7 : ¬ k = 7) (h8 : ¬ k = 8) (h9 : ¬ k = 9) (o vk vn vb : Int) (va na vt : List UInt8) (w : World) :
    Calls Tryz.prog 158 #[.agg #[.int .u8 k, .int .u8 o, .string (bs va), .string (bs na), .int .u8 vk, .int .i64 vn, .int .u64 vb, .string (bs vt)]] w fun e w' => (∃ b, e = .returned (.bool b) ∧ (b = false ↔ (0 = o ∧ va = [] ∧ na = [] ∧ 0 = vk ∧ 0 = vn ∧ 0 = vb ∧ vt = []))) ∧ Grew w w' := by
  rw [← bs_nil vt, ← bs_nil va, ← bs_nil na]
  go_enter Tryz.func158, Tryz.ntmps158
  go_wp2
  all_goals
    go_ret
    refine ⟨⟨_, rfl, ?_⟩, grew_two _ _ _⟩
    simp_all
theorem bf_eq {a b : Bool} {Q : Prop} (h1 : a = false ↔ Q) (h2 : b = false ↔ Q) : b = a := by cases a <;> cases b <;> simp_all
theorem c_pred_Node_more (N : Nat) : C_pred_Node_more.Ok prog N := by
  refine ⟨⟨Tryz.f158, Tryz.func158, by kernel_rfl, by kernel_rfl⟩, fun a r h => ?_⟩
  obtain ⟨n, ⟨⟩⟩ := a
  have h : some (moreB n) = some r := h
  obtain rfl := Option.some.inj h
  intro M S w vs hh _ hsz hrep
  obtain ⟨v, rfl⟩ : ∃ v, vs = #[v] := by
    match vs, hsz with
    | ⟨[v]⟩, _ => exact ⟨v, rfl⟩
  obtain ⟨k, o, va, na, vk, vn, vb, vt⟩ := n
  have h0 : VRep M S w v (.agg ([.int .u8 k, .int .u8 o, .string (bs va), .string (bs na), .int .u8 vk, .int .i64 vn, .int .u64 vb, .string (bs vt)].map .v)) := hrep 0 (Nat.zero_lt_one)
  obtain rfl := agg_vals h0
  have fin : ∀ {k : Int} {Q : Prop}, (moreB ⟨k, o, va, na, ⟨vk, vn, vb, vt⟩⟩ = false ↔ Q) → ∀ e w', ((∃ b, e = .returned (.bool b) ∧ (b = false ↔ Q)) ∧ Grew w w') →
      ∃ M' S', EndRep M' S' w' e (.ret (.v (.bool (moreB ⟨k, o, va, na, ⟨vk, vn, vb, vt⟩⟩)))) ∧ RelH M' S' AH.nil w' ∧ Frm M S AH.nil w M' S' AH.nil w' := by
    rintro k Q hm e w' ⟨⟨b, rfl, hb⟩, hg⟩
    obtain rfl := bf_eq hm hb
    exact ⟨M, S, .data (.v _), hh.grew hg, .grew hh hg⟩
  by_cases h4 : k = 4
  · subst h4
    exact (more_4 o vk vn vb va na vt w).mono (fin (by simp [moreB, moreZ, eq_comm (a := (0 : Int)), and_assoc]))
  by_cases h7 : k = 7
  · subst h7
    exact (more_7 o vk vn vb va na vt w).mono (fin (by simp [moreB, moreZ, eq_comm (a := (0 : Int)), and_assoc]))
  by_cases h8 : k = 8
  · subst h8
    exact (more_8 o vk vn vb va na vt w).mono (fin (by simp [moreB, moreZ, eq_comm (a := (0 : Int)), and_assoc]))
  by_cases h9 : k = 9
  · subst h9
    exact (more_9 o vk vn vb va na vt w).mono (fin (by simp [moreB, moreZ, eq_comm (a := (0 : Int)), and_assoc]))
  have e4 : (k == 4) = false := by simpa using h4
  have e7 : (k == 7) = false := by simpa using h7
  have e8 : (k == 8) = false := by simpa using h8
  have e9 : (k == 9) = false := by simpa using h9
  exact (more_k k h4 h7 h8 h9 o vk vn vb va na vt w).mono (fin (by simp only [moreB, e4, e7, e8, e9, cond_false]; simp [moreZ, eq_comm (a := (0 : Int)), and_assoc]))
end Go.Proofs.YtahklhniofiofaaGreatDoor.D
namespace Go.Proofs.YtahklhniofiofaaGreatDoor.D
open Go Go.RowKit Go.Extern.Stop Go.Stop Go.Extern Go.Proofs.Tryz
set_option maxHeartbeats 4000000
set_option maxRecDepth 1000000
theorem fa_nil (t : Value) (w : World) :
    Calls Tryz.prog 36 #[.nilIface, t] w fun e w' => e = .returned (.bool false) ∧ w' = w := by
  go_enter Tryz.func36, Tryz.ntmps36
  go_wp2
  go_ret
  exact ⟨rfl, rfl⟩
theorem find_nil (w : World) : Calls Tryz.prog 35 #[.nilIface] w fun e w' => e = .returned (.pointer none) ∧ Below w.heap.size w w' := by
  go_enter Tryz.func35, Tryz.ntmps35
  go_wp2_with (go_at_call 36; refine (fa_nil _ _).mono ?_; rintro e w' ⟨rfl, rfl⟩)
  go_ret
  exact ⟨rfl, (Below.refl _ w).alloc (Nat.le_refl _) _⟩
theorem c_fault_find_n (N : Nat) : C_fault_find_n.Ok prog N := by
  refine ⟨⟨Tryz.f35, Tryz.func35, by kernel_rfl, by kernel_rfl⟩, fun a r h => ?_⟩
  intro M S w vs hh _ hsz hrep
  obtain ⟨v, rfl⟩ : ∃ v, vs = #[v] := by
    match vs, hsz with
    | ⟨[v]⟩, _ => exact ⟨v, rfl⟩
  have h0 : v = .nilIface := VRep.v_eq (hrep 0 (Nat.zero_lt_one))
  subst h0
  refine (find_nil w).mono ?_
  rintro e w' ⟨rfl, hb⟩
  have hg : Grew w w' := ⟨hb.os, hb.tape, hb.output, hb.size, hb.block⟩
  exact ⟨M, S, .data (.v _), hh.grew hg, .grew hh hg⟩
end Go.Proofs.YtahklhniofiofaaGreatDoor.D
namespace Go.Proofs.YtahklhniofiofaaGreatDoor.D
open Go Go.Shelf Go.RowKit Go.Proofs.Tryz
set_option maxHeartbeats 1000000
set_option maxRecDepth 1000000
def bren : Go.Shelf.Ren := ⟨fun | 166 => 146 | 167 => 145 | 169 => 147 | 240 => 162 | 276 => 174 | n => n, fun | 0 => 0 | 3 => 3 | 4 => 4 | 5 => 5 | 9 => 9 | 20 => 20 | 31 => 201 | 37 => 188 | 70 => 216 | 72 => 218 | 75 => 27 | 76 => 220 | 80 => 94 | 127 => 234 | 164 => 129 | n => n, fun n => n⟩
theorem lays166 : Go.Proofs.Lays.n166 Tryz.prog bren := {
  mixed := by kernel_rfl
  f166 := Tryz.func146.trans (congrArg some (by kernel_rfl))
  f240 := Tryz.func162.trans (congrArg some (by kernel_rfl))
  f276 := Tryz.func174.trans (congrArg some (by kernel_rfl))
  t0 := Tryz.underlying0
  a0 := Tryz.isAgg0
  z0 := Tryz.sizeOf0
  v0 := Tryz.zeroValue0
  t3 := Tryz.underlying3
  a3 := Tryz.isAgg3
  z3 := Tryz.sizeOf3
  v3 := Tryz.zeroValue3
  t4 := Tryz.underlying4
  a4 := Tryz.isAgg4
  z4 := Tryz.sizeOf4
  v4 := Tryz.zeroValue4
  t9 := Tryz.underlying9
  a9 := Tryz.isAgg9
  z9 := Tryz.sizeOf9
  v9 := Tryz.zeroValue9
  t20 := Tryz.underlying20
  a20 := Tryz.isAgg20
  z20 := Tryz.sizeOf20
  v20 := Tryz.zeroValue20
  t37 := Tryz.underlying188
  a37 := Tryz.isAgg188
  z37 := Tryz.sizeOf188
  v37 := Tryz.zeroValue188
  t70 := Tryz.underlying216
  a70 := Tryz.isAgg216
  z70 := Tryz.sizeOf216
  v70 := Tryz.zeroValue216
  t72 := Tryz.underlying218
  a72 := Tryz.isAgg218
  z72 := Tryz.sizeOf218
  v72 := Tryz.zeroValue218
  t75 := Tryz.underlying27
  a75 := Tryz.isAgg27
  z75 := Tryz.sizeOf27
  v75 := Tryz.zeroValue27
  t164 := Tryz.underlying129
  a164 := Tryz.isAgg129
  z164 := Tryz.sizeOf129
  v164 := Tryz.zeroValue129 }
theorem lays167 : Go.Proofs.Lays.n167 Tryz.prog bren := {
  mixed := by kernel_rfl
  f167 := Tryz.func145.trans (congrArg some (by kernel_rfl))
  f240 := Tryz.func162.trans (congrArg some (by kernel_rfl))
  f276 := Tryz.func174.trans (congrArg some (by kernel_rfl))
  t0 := Tryz.underlying0
  a0 := Tryz.isAgg0
  z0 := Tryz.sizeOf0
  v0 := Tryz.zeroValue0
  t4 := Tryz.underlying4
  a4 := Tryz.isAgg4
  z4 := Tryz.sizeOf4
  v4 := Tryz.zeroValue4
  t5 := Tryz.underlying5
  a5 := Tryz.isAgg5
  z5 := Tryz.sizeOf5
  v5 := Tryz.zeroValue5
  t9 := Tryz.underlying9
  a9 := Tryz.isAgg9
  z9 := Tryz.sizeOf9
  v9 := Tryz.zeroValue9
  t20 := Tryz.underlying20
  a20 := Tryz.isAgg20
  z20 := Tryz.sizeOf20
  v20 := Tryz.zeroValue20
  t37 := Tryz.underlying188
  a37 := Tryz.isAgg188
  z37 := Tryz.sizeOf188
  v37 := Tryz.zeroValue188
  t70 := Tryz.underlying216
  a70 := Tryz.isAgg216
  z70 := Tryz.sizeOf216
  v70 := Tryz.zeroValue216
  t72 := Tryz.underlying218
  a72 := Tryz.isAgg218
  z72 := Tryz.sizeOf218
  v72 := Tryz.zeroValue218
  t75 := Tryz.underlying27
  a75 := Tryz.isAgg27
  z75 := Tryz.sizeOf27
  v75 := Tryz.zeroValue27
  t164 := Tryz.underlying129
  a164 := Tryz.isAgg129
  z164 := Tryz.sizeOf129
  v164 := Tryz.zeroValue129 }
theorem lays169 : Go.Proofs.Lays.n169 Tryz.prog bren := {
  mixed := by kernel_rfl
  f169 := Tryz.func147.trans (congrArg some (by kernel_rfl))
  t0 := Tryz.underlying0
  a0 := Tryz.isAgg0
  z0 := Tryz.sizeOf0
  v0 := Tryz.zeroValue0
  t3 := Tryz.underlying3
  a3 := Tryz.isAgg3
  z3 := Tryz.sizeOf3
  v3 := Tryz.zeroValue3
  t9 := Tryz.underlying9
  a9 := Tryz.isAgg9
  z9 := Tryz.sizeOf9
  v9 := Tryz.zeroValue9
  t37 := Tryz.underlying188
  a37 := Tryz.isAgg188
  z37 := Tryz.sizeOf188
  v37 := Tryz.zeroValue188
  t70 := Tryz.underlying216
  a70 := Tryz.isAgg216
  z70 := Tryz.sizeOf216
  v70 := Tryz.zeroValue216
  t72 := Tryz.underlying218
  a72 := Tryz.isAgg218
  z72 := Tryz.sizeOf218
  v72 := Tryz.zeroValue218
  t127 := Tryz.underlying234
  a127 := Tryz.isAgg234
  z127 := Tryz.sizeOf234
  v127 := Tryz.zeroValue234 }
theorem bextra : Builder.Extra Tryz.prog bren := {
  sizeBuilder := by kernel_rfl
  liesBuilder := by kernel_rfl
  t5 := Tryz.underlying5
  a5 := Tryz.isAgg5
  z5 := Tryz.sizeOf5
  v5 := Tryz.zeroValue5
  infoByte := by kernel_rfl
  cellsByte := by kernel_rfl
  sizeByte := by kernel_rfl
  neB5 := by decide }
theorem set_rep2 {α : Type} (x z : α) (r : List α) : ∀ j, (List.replicate (j + 1) z ++ r).set j x = List.replicate j z ++ x :: r
  | 0 => rfl
  | j + 1 => by
    have := set_rep2 x z r j
    simp only [List.replicate_succ, List.cons_append, List.set_cons_succ] at this ⊢
    rw [this]
theorem w_add8 (q : Nat) : 48 + UInt8.ofNat (q % 10) = UInt8.ofNat (48 + q % 10) := by
  apply UInt8.toNat_inj.1
  simp [UInt8.toNat_add]
theorem whole_walk (n : Int) (h1 : -4611686018427387904 ≤ n) (h2 : n ≤ 4611686018427387904) (w : World) :
    Calls Tryz.prog 113 #[.int .i64 n] w fun e w' => e = .returned (.string (bs (whS n))) ∧ Below w.heap.size w w' := by
  have hm : max n (-n) = (n.natAbs : Int) := by omega
  have hm2 : n.natAbs < 10 ^ 19 := by omega
  obtain ⟨m, hmm⟩ : ∃ m, n.natAbs = m := ⟨_, rfl⟩
  rw [hmm] at hm hm2
  go_enter Tryz.func113, Tryz.ntmps113
  go_wp2
  have hin : n < 0 ↔ n < 0 := Iff.rfl
  go_loopw [4, 5] (fun i x wr => ∃ (j k q : Nat) (tail : List UInt8), j + k = 21 ∧ i = .int .i64 j ∧ x = .int .u64 (q : Int) ∧ wr.heap[w.heap.size]? = some (.cells (Lib.byteCells (List.replicate j 0 ++ tail)).toArray 214 (0, 0)) ∧ Below w.heap.size w wr ∧ tail.length = k ∧ dgF 20 m = dgF (20 - k) q ++ tail ∧ (k = 0 ∨ q ≠ 0) ∧ q < 10 ^ (19 - k) ∧ k ≤ 19) (fun i _ _ => (intOf i).toNat)
  case atStart =>
    refine ⟨21, 0, m, [], rfl, rfl, rfl, ?_, (Below.refl _ w).alloc (Nat.le_refl _) _, rfl, by simp, .inl rfl, hm2, by omega⟩
    rw [heap_alloc_new]
    rfl
  case round =>
    obtain ⟨j, k, q, tail, hjk, rfl, rfl, hh, hb, htl, hdg, hkq, hq, hk19⟩ := hrel
    have hsz := hb.size
    have hk18 : k ≤ 18 := by
      rcases hkq with h | h
      · omega
      · by_cases hk : k = 19
        · subst hk; simp at hq; omega
        · omega
    obtain ⟨p, rfl⟩ : ∃ p, j = p + 2 := ⟨j - 2, by omega⟩
    have hlen : (Lib.byteCells (List.replicate (p + 2) 0 ++ tail)).length = 21 := by rw [Lib.byteCells_length]; simp; omega
    have g1 : (0 : Int) ≤ ((p + 1 : Nat) : Int) := by omega
    have g2 : ((p + 1 : Nat) : Int) < 21 := by omega
    have g3 : p + 1 < 21 := by omega
    have g4 : (p : Int) + 1 < 21 := by omega
    have g5 : (p : Int) < 21 := by omega
    have g6 : p < 21 := by omega
    have g7 : p + 1 ≤ 21 := by omega
    have g8 : p ≤ 21 := by omega
    have c1 : ∃ v, wr.cell? ⟨w.heap.size, p + 1, none⟩ = some v := by
      rw [Lib.cell_of_heap hh]; exact ⟨(Lib.byteCells (List.replicate (p + 2) 0 ++ tail))[p + 1]'(by omega), by simp only [List.getElem?_toArray]; exact List.getElem?_eq_getElem _⟩
    obtain ⟨v0, c1⟩ := c1
    have c2 : wr.frozen? ⟨w.heap.size, p + 1, none⟩ = false := Lib.frozen_of_heap hh (p + 1)
    have hq64 : q < 18446744073709551616 := Nat.lt_of_lt_of_le hq (Nat.le_trans (Nat.pow_le_pow_right (by decide) (by omega : 19 - k ≤ 19)) (by decide))
    have hbl := fun v => Joins.block_setCell (i := p + 1) hh v
    have c3 : ∀ v, (wr.setCell ⟨w.heap.size, p + 1, none⟩ v).cell? ⟨w.heap.size, p, none⟩ = some (.int .u8 0) := fun v => by
      rw [Lib.cell_of_heap (hbl v), List.setIfInBounds_toArray, List.getElem?_toArray, List.getElem?_set_ne (by omega)]
      simp [Lib.byteCells, List.getElem?_append]
    have c4 : ∀ v, (wr.setCell ⟨w.heap.size, p + 1, none⟩ v).frozen? ⟨w.heap.size, p, none⟩ = false := fun v => Lib.frozen_of_heap (hbl v) p
    have hbl2 := fun v v' => Joins.block_setCell (i := p) (hbl v) v'
    have hd10 : q % 10 < 10 := Nat.mod_lt _ (by decide)
    have s1 : (0 : Int) ≤ (p : Int) + 2 - 1 := by omega
    have s2 : (p : Int) + 2 - 1 ≤ 21 := by omega
    have s3 : (0 : Int) ≤ (p : Int) + 2 - 1 - 1 := by omega
    have s4 : (p : Int) + 2 - 1 - 1 ≤ 21 := by omega
    have s5 : ((p : Int) + 2 - 1).toNat = p + 1 := by omega
    have s6 : ((p : Int) + 2 - 1 - 1).toNat = p := by omega
    have s7 : ¬ (21 = p + 1) := by omega
    have s8 : ¬ (21 = p) := by omega
    have r1 : ∀ W, (Instr.sliceAt 214 (.pointer (some ⟨w.heap.size, 0, none⟩)) (some (.int .i64 ((p : Int) + 2 - 1))) none none).run Tryz.prog W = .ok (.slice (some ⟨w.heap.size, p + 1, none⟩) (20 - p) (20 - p)) W := fun W => by
      rw [run_sliceAt_array_l (P := Tryz.prog) W 214 _ (by kernel_rfl) .i64 _ s1 (by exact s2), s5, show Tryz.prog.elem 214 = 5 from by kernel_rfl, Tryz.sizeOf5, show Tryz.prog.arrayLen 214 = 21 from by kernel_rfl]
      simp only [Result.andThen, slicedAt, if_neg s7, Addr.add, Nat.mul_one, Nat.zero_add, show 21 - (p + 1) = 20 - p from by omega, Nat.succ_ne_zero, if_false]
    have r2 : ∀ W, (Instr.sliceAt 214 (.pointer (some ⟨w.heap.size, 0, none⟩)) (some (.int .i64 ((p : Int) + 2 - 1 - 1))) none none).run Tryz.prog W = .ok (.slice (some ⟨w.heap.size, p, none⟩) (21 - p) (21 - p)) W := fun W => by
      rw [run_sliceAt_array_l (P := Tryz.prog) W 214 _ (by kernel_rfl) .i64 _ s3 (by exact s4), s6, show Tryz.prog.elem 214 = 5 from by kernel_rfl, Tryz.sizeOf5, show Tryz.prog.arrayLen 214 = 21 from by kernel_rfl]
      simp only [Result.andThen, slicedAt, if_neg s8, Addr.add, Nat.mul_one, Nat.zero_add]
      by_cases hp0 : p = 0
      · subst hp0; rfl
      · rw [if_neg hp0]
    obtain ⟨l1, hl1⟩ : ∃ l, l = UInt8.ofNat (48 + q % 10) :: tail := ⟨_, rfl⟩
    have hll : l1.length = 20 - p := by rw [hl1]; simp; omega
    have hsub : (48 + (q : Int) % 10) = ((UInt8.ofNat (48 + q % 10)).toNat : Int) := by rw [UInt8.toNat_ofNat', Nat.mod_eq_of_lt (by omega)]; omega
    have hw1 : (wr.setCell ⟨w.heap.size, p + 1, none⟩ (.int .u8 (48 + (q : Int) % 10))).heap[w.heap.size]? = some (.cells (Lib.byteCells (List.replicate (p + 1) 0 ++ l1)).toArray 214 (0, 0)) := by
      rw [hbl, hl1, ← set_rep2 (UInt8.ofNat (48 + q % 10)) 0 tail (p + 1), List.setIfInBounds_toArray, hsub]
      simp only [Lib.byteCells, List.map_set]
    have hw2 : ((wr.setCell ⟨w.heap.size, p + 1, none⟩ (.int .u8 (48 + (q : Int) % 10))).setCell ⟨w.heap.size, p, none⟩ (.int .u8 45)).heap[w.heap.size]? = some (.cells (Lib.byteCells (List.replicate p 0 ++ 45 :: l1)).toArray 214 (0, 0)) := by
      rw [Joins.block_setCell hw1, ← set_rep2 45 0 l1 p, List.setIfInBounds_toArray]
      simp only [Lib.byteCells, List.map_set]
      rfl
    have hcv := fun (W : World) (o : Nat) (l : List UInt8) (cap : Nat) (hW : W.heap[w.heap.size]? = some (.cells (Lib.byteCells (List.replicate o 0 ++ l)).toArray 214 (0, 0))) => run_convert_bytes_back (P := Tryz.prog) W 188 9 5 ⟨w.heap.size, o, none⟩ cap l (by kernel_rfl) (by kernel_rfl) (by kernel_rfl) (fun i hi => by
        have ea : (⟨w.heap.size, o, none⟩ : Addr).add i = ⟨w.heap.size, o + i, none⟩ := by unfold Addr.add; split <;> simp [*]
        rw [ea, Lib.cell_of_heap hW, List.getElem?_toArray]
        simp [Lib.byteCells, List.getElem?_append_right, List.getElem?_eq_getElem hi])
    have cv1 := hcv _ (p + 1) l1 (20 - p) hw1
    have cv2 := hcv _ p (45 :: l1) (21 - p) hw2
    rw [hll] at cv1
    rw [show (45 :: l1).length = 21 - p by simp; omega] at cv2
    have hd2 : dgF 20 m = (if q / 10 = 0 then [] else dgF (19 - k) (q / 10)) ++ l1 := by
      rw [hdg, show 20 - k = (19 - k) + 1 by omega, dgF, hl1]; simp
    have hhi : (wr.setCell ⟨w.heap.size, p + 1, none⟩ (.int .u8 (48 + (q : Int) % 10))).heap[w.heap.size]? = some (.cells (Lib.byteCells (List.replicate (p + 1) 0 ++ l1)).toArray 214 (0, 0)) ∧ l1.length = k + 1 ∧ p + 1 + (k + 1) = 21 ∧ q < 10 ^ (19 - k) ∧ l1 = UInt8.ofNat (48 + q % 10) :: tail := ⟨hw1, by omega, by omega, hq, hl1⟩
    clear hjk hkq hq hk19 hdg hcv hw1 hw2 hl1 hsub
    go_wp2
    · go_ret
      rename_i hq0 hn
      have hq0' : q / 10 = 0 := by have := beq_iff_eq.1 hq0; omega
      rw [if_pos hq0', List.nil_append, hhi.2.2.2.2, ← w_add8] at hd2
      have e : whS n = 45 :: (48 + UInt8.ofNat (q % 10)) :: tail := by rw [whS, if_pos hn, hmm, hd2]; rfl
      rw [e]
      exact ⟨rfl, (hb.setCell (p := ⟨w.heap.size, p + 1, none⟩) (Nat.le_refl _) _).setCell (p := ⟨w.heap.size, p, none⟩) (Nat.le_refl _) _⟩
    · go_ret
      rename_i hq0 hn
      have hq0' : q / 10 = 0 := by have := beq_iff_eq.1 hq0; omega
      rw [if_pos hq0', List.nil_append, hhi.2.2.2.2, ← w_add8] at hd2
      have e : whS n = (48 + UInt8.ofNat (q % 10)) :: tail := by rw [whS, if_neg (by omega), hmm, hd2]; rfl
      rw [e]
      exact ⟨rfl, hb.setCell (p := ⟨w.heap.size, p + 1, none⟩) (Nat.le_refl _) _⟩
    · obtain ⟨hw1, hl, hjk, hq, hl1⟩ := hhi
      rename_i hq0
      have hq0' : ¬ (q / 10 = 0) := fun e => by have := beq_eq_false_iff_ne.1 hq0; omega
      refine ⟨⟨p + 1, k + 1, q / 10, l1, hjk, ?_, ?_, hw1, hb.setCell (p := ⟨w.heap.size, p + 1, none⟩) (Nat.le_refl _) _, hl, ?_, .inr hq0', ?_, by omega⟩, by simp only [intOf]; omega⟩
      · rw [show (p : Int) + 2 - 1 = ((p + 1 : Nat) : Int) by omega]
      · rw [show (q : Int) / 10 = ((q / 10 : Nat) : Int) by omega]
      · rw [hd2, if_neg hq0', show 20 - (k + 1) = 19 - k by omega]
      · refine Nat.div_lt_of_lt_mul ?_
        have e : 19 - k = 19 - (k + 1) + 1 := by omega
        rw [e, Nat.pow_succ, Nat.mul_comm] at hq
        exact hq
theorem c_lex_whole (N : Nat) : C_lex_whole.Ok prog N := by
  refine ⟨⟨Tryz.f113, Tryz.func113, by kernel_rfl, by kernel_rfl⟩, fun a r h => ?_⟩
  have h : s_lex_whole N a.1 = some r := h
  unfold s_lex_whole at h
  obtain ⟨h1, h2⟩ := gd_some h
  obtain rfl := Option.some.inj h2
  intro M S w vs hh _ hsz hrep
  obtain ⟨v, rfl⟩ : ∃ v, vs = #[v] := by
    match vs, hsz with
    | ⟨[v]⟩, _ => exact ⟨v, rfl⟩
  have h0 : v = .int .i64 a.1 := VRep.v_eq (hrep 0 (Nat.zero_lt_one))
  subst h0
  obtain ⟨k1, k2⟩ := (Bool.and_eq_true _ _).mp h1
  refine (whole_walk a.1 (leB_iff.1 k1) (leB_iff.1 k2) w).mono ?_
  rintro e w' ⟨rfl, hb⟩
  have hg : Grew w w' := ⟨hb.os, hb.tape, hb.output, hb.size, hb.block⟩
  exact ⟨M, S, .data (.v _), hh.grew hg, .grew hh hg⟩
end Go.Proofs.YtahklhniofiofaaGreatDoor.D
