/- fault.New, walked. No premise beyond what each theorem says. -/
import Derived.Test.YtfmibkkigkgecaaGreatDoorVG1
import Derived.WalkKit
import Derived.LaidEql
import Derived.Stop.Asserts
import Derived.RowKitTokens
import Derived.Lib.Walk
import Derived.Lib.SliceRun
import Derived.Lib.AppendZerosOnto
import Derived.WalkLawsBesides
import Derived.Deep.RegionHeld3
import Derived.Shelf.Strings.BuilderK
import Derived.Test.YtfmibkkigkgecaaGreatDoorVA3
import Derived.BigCall
import Derived.Laws.BytesString
import Derived.Laws.IdiomStrings
import Derived.Lib.SmallJoins
import Derived.Laws.Bits64b
import Derived.Lib.UnsafeStr
import Derived.Lib.OthersKept
set_option linter.all false
set_option linter.unusedSimpArgs false
set_option linter.unusedVariables false
namespace Go.Proofs.YtfmibkkigkgecaaGreatDoor.V
open Go
open Go.Proofs.Tryz
set_option maxRecDepth 1000000
set_option linter.unusedSimpArgs false
set_option linter.unusedVariables false
noncomputable section
theorem hm : prog.follows .mixedOrders = true := by kernel_rfl
def eA0 (x : lex_Token) : AV := .agg [.v (.int .u8 x.Kind), .v (.int .i64 x.At), .v (.string (bs x.Text)), .v (.int .u8 x.Val.Kind), .v (.int .i64 x.Val.N), .v (.int .u64 x.Val.Bits), .v (.string (bs x.Val.Text))]
def eA1 (x : value_Value) : AV := .agg [.v (.int .u8 x.Kind), .v (.int .i64 x.N), .v (.int .u64 x.Bits), .v (.string (bs x.Text))]
def eA2 (x : Int) : AV := .v (.int .u8 x)
def eA3 (x : pred_Node) : AV := .agg [.v (.int .u8 x.Kind), .v (.int .u8 x.Op), .v (.string (bs x.Var)), .v (.string (bs x.Name)), .v (.int .u8 x.Val.Kind), .v (.int .i64 x.Val.N), .v (.int .u64 x.Val.Bits), .v (.string (bs x.Val.Text))]
def eA4 (x : List pred_Node) : AV := .sl 8 (List.map eA3 x)
def eA5 (x : fault_Fault) : AV := .agg [.v (.int .i64 x.E), .v (.int .i64 x.At)]
def eA6 (x : List UInt8) : AV := .v (.string (bs x))
def eA7 (x : ref12_State) : AV := .agg [.sl 7 (List.map eA0 x.L), .v (.int .i64 x.At), .v (.int .i64 x.End), .v (.int .i64 x.F.E), .v (.int .i64 x.F.At)]
abbrev T : Nat → Type
  | 0 => lex_Token
  | 1 => value_Value
  | 2 => Int
  | 3 => pred_Node
  | 4 => List pred_Node
  | 5 => fault_Fault
  | 6 => List UInt8
  | 7 => ref12_State
  | _ => Unit
def enc : (i : Nat) → T i → List (BV T)
  | 0 => fun (x : lex_Token) => [.int .u8 x.Kind, .int .i64 x.At, .str x.Text, .int .u8 x.Val.Kind, .int .i64 x.Val.N, .int .u64 x.Val.Bits, .str x.Val.Text]
  | 1 => fun (x : value_Value) => [.int .u8 x.Kind, .int .i64 x.N, .int .u64 x.Bits, .str x.Text]
  | 2 => fun (x : Int) => [.int .u8 x]
  | 3 => fun (x : pred_Node) => [.int .u8 x.Kind, .int .u8 x.Op, .str x.Var, .str x.Name, .int .u8 x.Val.Kind, .int .i64 x.Val.N, .int .u64 x.Val.Bits, .str x.Val.Text]
  | 4 => fun (x : List pred_Node) => [.sl 3 x]
  | 5 => fun (x : fault_Fault) => [.int .i64 x.E, .int .i64 x.At]
  | 6 => fun (x : List UInt8) => [.str x]
  | 7 => fun (x : ref12_State) => [.sl 0 x.L, .int .i64 x.At, .int .i64 x.End, .int .i64 x.F.E, .int .i64 x.F.At]
  | _ => fun _ => []
def dec0 : List (BV T) → Option lex_Token := P1 (asInt .u8) fun a0 => P1 (asInt .i64) fun a1 => P1 asStr fun a2 => P1 (asInt .u8) fun a3 => P1 (asInt .i64) fun a4 => P1 (asInt .u64) fun a5 => P1 asStr fun a6 => P0 (⟨a0, a1, a2, ⟨a3, a4, a5, a6⟩⟩ : lex_Token)
def dec1 : List (BV T) → Option value_Value := P1 (asInt .u8) fun a0 => P1 (asInt .i64) fun a1 => P1 (asInt .u64) fun a2 => P1 asStr fun a3 => P0 (⟨a0, a1, a2, a3⟩ : value_Value)
def dec2 : List (BV T) → Option Int := P1 (asInt .u8) fun a0 => P0 (a0 : Int)
def dec3 : List (BV T) → Option pred_Node := P1 (asInt .u8) fun a0 => P1 (asInt .u8) fun a1 => P1 asStr fun a2 => P1 asStr fun a3 => P1 (asInt .u8) fun a4 => P1 (asInt .i64) fun a5 => P1 (asInt .u64) fun a6 => P1 asStr fun a7 => P0 (⟨a0, a1, a2, a3, ⟨a4, a5, a6, a7⟩⟩ : pred_Node)
def dec4 : List (BV T) → Option (List pred_Node) := P1 (asRow 3) fun a0 => P0 (a0 : List pred_Node)
def dec5 : List (BV T) → Option fault_Fault := P1 (asInt .i64) fun a0 => P1 (asInt .i64) fun a1 => P0 (⟨a0, a1⟩ : fault_Fault)
def dec6 : List (BV T) → Option (List UInt8) := P1 asStr fun a0 => P0 (a0 : List UInt8)
def dec7 : List (BV T) → Option ref12_State := P1 (asRow 0) fun a0 => P1 (asInt .i64) fun a1 => P1 (asInt .i64) fun a2 => P1 (asInt .i64) fun a3 => P1 (asInt .i64) fun a4 => P0 (⟨a0, a1, a2, ⟨a3, a4⟩⟩ : ref12_State)
def dec : (i : Nat) → List (BV T) → Option (T i)
  | 0 => dec0
  | 1 => dec1
  | 2 => dec2
  | 3 => dec3
  | 4 => dec4
  | 5 => dec5
  | 6 => dec6
  | 7 => dec7
  | _ => fun _ => none
def eA : (i : Nat) → T i → AV
  | 0 => eA0
  | 1 => eA1
  | 2 => eA2
  | 3 => eA3
  | 4 => eA4
  | 5 => eA5
  | 6 => eA6
  | 7 => eA7
  | _ => fun _ => .agg []
def tb : Tb T := ⟨fun i => [7, 4, 1, 8, 1, 2, 1, 5].getD i 0, fun i => [true, true, false, true, false, true, false, true].getD i true, eA, enc, dec⟩
def sbf (k : Nat) : Option (List UInt8 → (i : Nat) × List (T i)) := match Nat.beq k 1 with
  | true => some fun s => ⟨2, bints s⟩
  | false => none
theorem sb_ok (k : Nat) (f : List UInt8 → (i : Nat) × List (T i)) (s : List UInt8) (h : sbf k = some f) : k = 1 ∧ tb.k (f s).1 = 1 ∧ (f s).2.map (tb.eA (f s).1) = s.map byteV := by
  unfold sbf at h
  split at h
  · rename_i hk; cases h; exact ⟨Nat.eq_of_beq_eq_true hk, rfl, (byteV_map s).symm⟩
  · cases h
def bof : (i : Nat) → List (T i) → Option (List UInt8)
  | 2 => fun (l : List Int) => some (byS l)
  | _ => fun _ => none
theorem bo_ok (i : Nat) (l : List (T i)) (s : List UInt8) (h : bof i l = some s) : tb.k i = 1 ∧ ∃ m : List Int, l.map (tb.eA i) = m.map u8V ∧ s = byS m := by
  unfold bof at h
  split at h
  · cases h; exact ⟨rfl, _, rfl, rfl⟩
  · cases h
theorem dec0_ok (cs : List (BV T)) (x : lex_Token) (h : dec0 cs = some x) : LWs (BV.avs tb cs) (eA0 x).cells := by
  obtain ⟨c0, r0, a0, rfl, h0, h⟩ := P1_some h
  obtain ⟨c1, r1, a1, rfl, h1, h⟩ := P1_some h
  obtain ⟨c2, r2, a2, rfl, h2, h⟩ := P1_some h
  obtain ⟨c3, r3, a3, rfl, h3, h⟩ := P1_some h
  obtain ⟨c4, r4, a4, rfl, h4, h⟩ := P1_some h
  obtain ⟨c5, r5, a5, rfl, h5, h⟩ := P1_some h
  obtain ⟨c6, r6, a6, rfl, h6, h⟩ := P1_some h
  obtain ⟨rfl, rfl⟩ := P0_some h
  exact .cons (asInt_lw h0) (.cons (asInt_lw h1) (.cons (asStr_lw h2) (.cons (asInt_lw h3) (.cons (asInt_lw h4) (.cons (asInt_lw h5) (.cons (asStr_lw h6) (.nil)))))))
theorem dec1_ok (cs : List (BV T)) (x : value_Value) (h : dec1 cs = some x) : LWs (BV.avs tb cs) (eA1 x).cells := by
  obtain ⟨c0, r0, a0, rfl, h0, h⟩ := P1_some h
  obtain ⟨c1, r1, a1, rfl, h1, h⟩ := P1_some h
  obtain ⟨c2, r2, a2, rfl, h2, h⟩ := P1_some h
  obtain ⟨c3, r3, a3, rfl, h3, h⟩ := P1_some h
  obtain ⟨rfl, rfl⟩ := P0_some h
  exact .cons (asInt_lw h0) (.cons (asInt_lw h1) (.cons (asInt_lw h2) (.cons (asStr_lw h3) (.nil))))
theorem dec2_ok (cs : List (BV T)) (x : Int) (h : dec2 cs = some x) : LWs (BV.avs tb cs) (eA2 x).cells := by
  obtain ⟨c0, r0, a0, rfl, h0, h⟩ := P1_some h
  obtain ⟨rfl, rfl⟩ := P0_some h
  exact .cons (asInt_lw h0) (.nil)
theorem dec3_ok (cs : List (BV T)) (x : pred_Node) (h : dec3 cs = some x) : LWs (BV.avs tb cs) (eA3 x).cells := by
  obtain ⟨c0, r0, a0, rfl, h0, h⟩ := P1_some h
  obtain ⟨c1, r1, a1, rfl, h1, h⟩ := P1_some h
  obtain ⟨c2, r2, a2, rfl, h2, h⟩ := P1_some h
  obtain ⟨c3, r3, a3, rfl, h3, h⟩ := P1_some h
  obtain ⟨c4, r4, a4, rfl, h4, h⟩ := P1_some h
  obtain ⟨c5, r5, a5, rfl, h5, h⟩ := P1_some h
  obtain ⟨c6, r6, a6, rfl, h6, h⟩ := P1_some h
  obtain ⟨c7, r7, a7, rfl, h7, h⟩ := P1_some h
  obtain ⟨rfl, rfl⟩ := P0_some h
  exact .cons (asInt_lw h0) (.cons (asInt_lw h1) (.cons (asStr_lw h2) (.cons (asStr_lw h3) (.cons (asInt_lw h4) (.cons (asInt_lw h5) (.cons (asInt_lw h6) (.cons (asStr_lw h7) (.nil))))))))
theorem dec4_ok (cs : List (BV T)) (x : List pred_Node) (h : dec4 cs = some x) : LWs (BV.avs tb cs) (eA4 x).cells := by
  obtain ⟨c0, r0, a0, rfl, h0, h⟩ := P1_some h
  obtain ⟨rfl, rfl⟩ := P0_some h
  exact .cons (asRow_ok h0) (.nil)
theorem dec5_ok (cs : List (BV T)) (x : fault_Fault) (h : dec5 cs = some x) : LWs (BV.avs tb cs) (eA5 x).cells := by
  obtain ⟨c0, r0, a0, rfl, h0, h⟩ := P1_some h
  obtain ⟨c1, r1, a1, rfl, h1, h⟩ := P1_some h
  obtain ⟨rfl, rfl⟩ := P0_some h
  exact .cons (asInt_lw h0) (.cons (asInt_lw h1) (.nil))
theorem dec6_ok (cs : List (BV T)) (x : List UInt8) (h : dec6 cs = some x) : LWs (BV.avs tb cs) (eA6 x).cells := by
  obtain ⟨c0, r0, a0, rfl, h0, h⟩ := P1_some h
  obtain ⟨rfl, rfl⟩ := P0_some h
  exact .cons (asStr_lw h0) (.nil)
theorem dec7_ok (cs : List (BV T)) (x : ref12_State) (h : dec7 cs = some x) : LWs (BV.avs tb cs) (eA7 x).cells := by
  obtain ⟨c0, r0, a0, rfl, h0, h⟩ := P1_some h
  obtain ⟨c1, r1, a1, rfl, h1, h⟩ := P1_some h
  obtain ⟨c2, r2, a2, rfl, h2, h⟩ := P1_some h
  obtain ⟨c3, r3, a3, rfl, h3, h⟩ := P1_some h
  obtain ⟨c4, r4, a4, rfl, h4, h⟩ := P1_some h
  obtain ⟨rfl, rfl⟩ := P0_some h
  exact .cons (asRow_ok h0) (.cons (asInt_lw h1) (.cons (asInt_lw h2) (.cons (asInt_lw h3) (.cons (asInt_lw h4) (.nil)))))
theorem tb_ok : tb.Ok where
  enc := fun i x => match i with | 0 => (by kernel_rfl) | 1 => (by kernel_rfl) | 2 => (by kernel_rfl) | 3 => (by kernel_rfl) | 4 => (by kernel_rfl) | 5 => (by kernel_rfl) | 6 => (by kernel_rfl) | 7 => (by kernel_rfl) | n + 8 => (by kernel_rfl)
  len := fun i x => match i with | 0 => (by kernel_rfl) | 1 => (by kernel_rfl) | 2 => (by kernel_rfl) | 3 => (by kernel_rfl) | 4 => (by kernel_rfl) | 5 => (by kernel_rfl) | 6 => (by kernel_rfl) | 7 => (by kernel_rfl) | n + 8 => (by kernel_rfl)
  one := fun i x => match i with | 0 => (by kernel_rfl) | 1 => (by kernel_rfl) | 2 => (by kernel_rfl) | 3 => (by kernel_rfl) | 4 => (by kernel_rfl) | 5 => (by kernel_rfl) | 6 => (by kernel_rfl) | 7 => (by kernel_rfl) | n + 8 => (by kernel_rfl)
  dat := fun i x => match i with | 0 => (by kernel_rfl) | 1 => (by kernel_rfl) | 2 => (by kernel_rfl) | 3 => (by kernel_rfl) | 4 => (by kernel_rfl) | 5 => (by kernel_rfl) | 6 => (by kernel_rfl) | 7 => (by kernel_rfl) | n + 8 => (by kernel_rfl)
  sg := fun i x h => match i with | 0 => (by cases h) | 1 => (by cases h) | 2 => (by kernel_rfl) | 3 => (by cases h) | 4 => (by kernel_rfl) | 5 => (by cases h) | 6 => (by kernel_rfl) | 7 => (by cases h) | n + 8 => (by cases h)
  ag := fun i x h => match i with | 0 => (by kernel_rfl) | 1 => (by kernel_rfl) | 2 => (by cases h) | 3 => (by kernel_rfl) | 4 => (by cases h) | 5 => (by kernel_rfl) | 6 => (by cases h) | 7 => (by kernel_rfl) | n + 8 => (by kernel_rfl)
  dec := fun i => match i with | 0 => dec0_ok | 1 => dec1_ok | 2 => dec2_ok | 3 => dec3_ok | 4 => dec4_ok | 5 => dec5_ok | 6 => dec6_ok | 7 => dec7_ok | n + 8 => fun cs x h => (by cases h)
def C_fault_New : Con tb := .p 25 [true, true] (.c (.i .i64) (.c (.i .i64) .n)) (fun N a => s_fault_New N a.1 a.2.1) (R := Unit ⊕ (Int × Int)) (.or (.p .ni) (.m (R := Int × Int) (.ifc 87 (.dp (.c (.i .i64) (.c (.i .i64) .n)))) .n .n (fun z => (z.1.1, z.1.2.1)) (fun r => ((r.1, r.2, ()), (), ())) (fun _ => rfl))) (fun r => by rcases r with _ | _ <;> exact rfl)
def C_lex_small : Con tb := .s 75 [true] (.c (.i .u8) .n) (fun N a => s_lex_small N a.1) (R := Bool) (.p .b) (fun _ => ⟨rfl, (by kernel_rfl)⟩)
def C_lex_scanner_fail_v359 : Con tb := .m 78 [false, true] (.c (.ptr 0 0) (.c (.i .i64) .n)) (.c (.c .s (.c (.i .i64) (.c (.own 0) .n))) .n) (.l 0 .n) (fun N a => s_lex_scanner_fail_v359 N a.1.2.1 a.2.1.1.1 a.2.1.1.2.1 a.2.2.1) (R := (List UInt8 × Int × List lex_Token) ⊕ (Int × Int × List UInt8 × Int × List lex_Token)) (.or (.m (R := List UInt8 × Int × List lex_Token) .ni (.c (.c .s (.c (.i .i64) (.c (.own 0) .n))) .n) (.l 0 .n) (fun z => (z.2.1.1.1, z.2.1.1.2.1, z.2.2.1)) (fun r => ((), ((r.1, r.2.1, (), ()), ()), r.2.2, ())) (fun _ => rfl)) (.m (R := Int × Int × List UInt8 × Int × List lex_Token) (.ifc 87 (.dp (.c (.i .i64) (.c (.i .i64) .n)))) (.c (.c .s (.c (.i .i64) (.c (.own 0) .n))) .n) (.l 0 .n) (fun z => (z.1.1, z.1.2.1, z.2.1.1.1, z.2.1.1.2.1, z.2.2.1)) (fun r => ((r.1, r.2.1, ()), ((r.2.2.1, r.2.2.2.1, (), ()), ()), r.2.2.2.2, ())) (fun _ => rfl)))
def C_lex_digit : Con tb := .s 76 [true] (.c (.i .u8) .n) (fun N a => s_lex_digit N a.1) (R := Bool) (.p .b) (fun _ => ⟨rfl, (by kernel_rfl)⟩)
def C_lex_tail : Con tb := .s 111 [true] (.c (.i .u8) .n) (fun N a => s_lex_tail N a.1) (R := Bool) (.p .b) (fun _ => ⟨rfl, (by kernel_rfl)⟩)
def C_lex_scanner_length_v869 : Con tb := .m 110 [false, false] (.c (.ptr 0 0) (.c (.fn 111 .n .n) .n)) (.c (.c .s (.c (.i .i64) (.c (.own 0) .n))) .n) (.l 0 .n) (fun N a => s_lex_scanner_length_v869 N a.2.1.1.1 a.2.1.1.2.1 a.2.2.1) (R := Int × List UInt8 × Int × List lex_Token) (.m (R := Int × List UInt8 × Int × List lex_Token) (.i .i64) (.c (.c .s (.c (.i .i64) (.c (.own 0) .n))) .n) (.l 0 .n) (fun z => (z.1, z.2.1.1.1, z.2.1.1.2.1, z.2.2.1)) (fun r => (r.1, ((r.2.1, r.2.2.1, (), ()), ()), r.2.2.2, ())) (fun _ => rfl))
def q_lex_scanner_length_v869_0 : LQ tb (((List UInt8) × Int × (List lex_Token)) × (Int)) := (LQ.m [] [0, 1, 5] (.c 0 (.ptr 0 0) (.c 1 (.fn 111 .n .n) (.c 5 (.i .i64) .n))) (.c (.c .s (.c (.i .i64) (.c (.own 0) .n))) .n) (.l 0 .n)).re (fun a => ((a.2.1.1.1, a.2.1.1.2.1, a.2.2.1), a.1.2.2.1)) (fun x => (((), ((), ()), x.2, ()), ((x.1.1, x.1.2.1, (), ()), ()), x.1.2.2, ())) (fun _ => rfl)
def f_lex_scanner_length_v869_0 (N : Nat) (c : (List UInt8) × Int × (List lex_Token)) (next : Int → Option (Int × List UInt8 × Int × List lex_Token)) (v : Int) : Option (Int × List UInt8 × Int × List lex_Token) := s_lex_scanner_length_v869_1 N c.1 c.2.1 c.2.2 (fun u0 => next u0) v
abbrev r_lex_scanner_length_v869_0 (N : Nat) : ((List UInt8) × Int × (List lex_Token)) × (Int) → Option (Int × List UInt8 × Int × List lex_Token) := fun a => loopV (f_lex_scanner_length_v869_0 N a.1) N a.2
def C_value_OfFlag : Con tb := .s 113 [true] (.c .b .n) (fun N a => s_value_OfFlag N a.1) (R := value_Value) (.p (.el tb_ok 1)) (fun _ => ⟨rfl, (by kernel_rfl)⟩)
def C_lex_scanner_put_v420 : Con tb := .m 112 [false, true, true, true, true] (.c (.ptr 0 0) (.c (.i .i64) (.c (.i .u8) (.c .s (.c (.el tb_ok 1) .n))))) (.c (.c .s (.c (.i .i64) (.c (.own 0) .n))) .n) (.l 0 .n) (fun N a => s_lex_scanner_put_v420 N a.1.2.1 a.1.2.2.1 a.1.2.2.2.1 a.1.2.2.2.2.1 a.2.1.1.1 a.2.1.1.2.1 a.2.2.1) (R := List UInt8 × Int × List lex_Token) (.m (R := List UInt8 × Int × List lex_Token) .ni (.c (.c .s (.c (.i .i64) (.c (.own 1) .n))) .n) (.d (.l 0 .n)) (fun z => (z.2.1.1.1, z.2.1.1.2.1, z.2.2.1)) (fun r => ((), ((r.1, r.2.1, (), ()), ()), r.2.2, ())) (fun _ => rfl))
def C_schema_Reserved : Con tb := .s 114 [true] (.c .s .n) (fun N a => s_schema_Reserved N a.1) (R := Bool) (.p .b) (fun _ => ⟨rfl, (by kernel_rfl)⟩)
def C_lex_scanner_word_v558 : Con tb := .m 79 [false] (.c (.ptr 0 0) .n) (.c (.c .s (.c (.i .i64) (.c (.own 0) .n))) .n) (.l 0 .n) (fun N a => s_lex_scanner_word_v558 N a.2.1.1.1 a.2.1.1.2.1 a.2.2.1) (R := (List UInt8 × Int × List lex_Token) ⊕ (List UInt8 × Int × List lex_Token) ⊕ (Int × Int × List UInt8 × Int × List lex_Token)) (.or (.m (R := List UInt8 × Int × List lex_Token) .ni (.c (.c .s (.c (.i .i64) (.c (.own 1) .n))) .n) (.d (.l 0 .n)) (fun z => (z.2.1.1.1, z.2.1.1.2.1, z.2.2.1)) (fun r => ((), ((r.1, r.2.1, (), ()), ()), r.2.2, ())) (fun _ => rfl)) (.or (.m (R := List UInt8 × Int × List lex_Token) .ni (.c (.c .s (.c (.i .i64) (.c (.own 0) .n))) .n) (.l 0 .n) (fun z => (z.2.1.1.1, z.2.1.1.2.1, z.2.2.1)) (fun r => ((), ((r.1, r.2.1, (), ()), ()), r.2.2, ())) (fun _ => rfl)) (.m (R := Int × Int × List UInt8 × Int × List lex_Token) (.ifc 87 (.dp (.c (.i .i64) (.c (.i .i64) .n)))) (.c (.c .s (.c (.i .i64) (.c (.own 0) .n))) .n) (.l 0 .n) (fun z => (z.1.1, z.1.2.1, z.2.1.1.1, z.2.1.1.2.1, z.2.2.1)) (fun r => ((r.1, r.2.1, ()), ((r.2.2.1, r.2.2.2.1, (), ()), ()), r.2.2.2.2, ())) (fun _ => rfl))))
def C_lex_scanner_length_v416 : Con tb := .m 110 [false, false] (.c (.ptr 0 0) (.c (.fn 76 .n .n) .n)) (.c (.c .s (.c (.i .i64) (.c (.own 0) .n))) .n) (.l 0 .n) (fun N a => s_lex_scanner_length_v416 N a.2.1.1.1 a.2.1.1.2.1 a.2.2.1) (R := Int × List UInt8 × Int × List lex_Token) (.m (R := Int × List UInt8 × Int × List lex_Token) (.i .i64) (.c (.c .s (.c (.i .i64) (.c (.own 0) .n))) .n) (.l 0 .n) (fun z => (z.1, z.2.1.1.1, z.2.1.1.2.1, z.2.2.1)) (fun r => (r.1, ((r.2.1, r.2.2.1, (), ()), ()), r.2.2.2, ())) (fun _ => rfl))
def q_lex_scanner_length_v416_0 : LQ tb (((List UInt8) × Int × (List lex_Token)) × (Int)) := (LQ.m [] [0, 1, 5] (.c 0 (.ptr 0 0) (.c 1 (.fn 76 .n .n) (.c 5 (.i .i64) .n))) (.c (.c .s (.c (.i .i64) (.c (.own 0) .n))) .n) (.l 0 .n)).re (fun a => ((a.2.1.1.1, a.2.1.1.2.1, a.2.2.1), a.1.2.2.1)) (fun x => (((), ((), ()), x.2, ()), ((x.1.1, x.1.2.1, (), ()), ()), x.1.2.2, ())) (fun _ => rfl)
def f_lex_scanner_length_v416_0 (N : Nat) (c : (List UInt8) × Int × (List lex_Token)) (next : Int → Option (Int × List UInt8 × Int × List lex_Token)) (v : Int) : Option (Int × List UInt8 × Int × List lex_Token) := s_lex_scanner_length_v416_1 N c.1 c.2.1 c.2.2 (fun u0 => next u0) v
abbrev r_lex_scanner_length_v416_0 (N : Nat) : ((List UInt8) × Int × (List lex_Token)) × (Int) → Option (Int × List UInt8 × Int × List lex_Token) := fun a => loopV (f_lex_scanner_length_v416_0 N a.1) N a.2
def C_value_OfInt : Con tb := .s 115 [true] (.c (.i .i64) .n) (fun N a => s_value_OfInt N a.1) (R := value_Value) (.p (.el tb_ok 1)) (fun _ => ⟨rfl, (by kernel_rfl)⟩)
def C_lex_scanner_number_v558 : Con tb := .m 80 [false] (.c (.ptr 0 0) .n) (.c (.c .s (.c (.i .i64) (.c (.own 0) .n))) .n) (.l 0 .n) (fun N a => s_lex_scanner_number_v558 N a.2.1.1.1 a.2.1.1.2.1 a.2.2.1) (R := (List UInt8 × Int × List lex_Token) ⊕ (Int × Int × List UInt8 × Int × List lex_Token) ⊕ (List UInt8 × Int × List lex_Token)) (.or (.m (R := List UInt8 × Int × List lex_Token) .ni (.c (.c .s (.c (.i .i64) (.c (.own 0) .n))) .n) (.l 0 .n) (fun z => (z.2.1.1.1, z.2.1.1.2.1, z.2.2.1)) (fun r => ((), ((r.1, r.2.1, (), ()), ()), r.2.2, ())) (fun _ => rfl)) (.or (.m (R := Int × Int × List UInt8 × Int × List lex_Token) (.ifc 87 (.dp (.c (.i .i64) (.c (.i .i64) .n)))) (.c (.c .s (.c (.i .i64) (.c (.own 0) .n))) .n) (.l 0 .n) (fun z => (z.1.1, z.1.2.1, z.2.1.1.1, z.2.1.1.2.1, z.2.2.1)) (fun r => ((r.1, r.2.1, ()), ((r.2.2.1, r.2.2.2.1, (), ()), ()), r.2.2.2.2, ())) (fun _ => rfl)) (.m (R := List UInt8 × Int × List lex_Token) .ni (.c (.c .s (.c (.i .i64) (.c (.own 1) .n))) .n) (.d (.l 0 .n)) (fun z => (z.2.1.1.1, z.2.1.1.2.1, z.2.2.1)) (fun r => ((), ((r.1, r.2.1, (), ()), ()), r.2.2, ())) (fun _ => rfl))))
def q_lex_scanner_number_v558_0 : LQ tb ((Int × Int × (List UInt8) × Int × (List lex_Token)) × (Int × Int)) := (LQ.m [] [0, 3, 4, 25, 26] (.c 0 (.ptr 0 0) (.c 3 (.i .i64) (.c 4 (.i .i64) (.c 25 (.i .i64) (.c 26 (.i .i64) .n))))) (.c (.c .s (.c (.i .i64) (.c (.own 0) .n))) .n) (.l 0 .n)).re (fun a => ((a.1.2.1, a.1.2.2.2.1, a.2.1.1.1, a.2.1.1.2.1, a.2.2.1), (a.1.2.2.1, a.1.2.2.2.2.1))) (fun x => (((), x.1.1, x.2.1, x.1.2.1, x.2.2, ()), ((x.1.2.2.1, x.1.2.2.2.1, (), ()), ()), x.1.2.2.2.2, ())) (fun _ => rfl)
def f_lex_scanner_number_v558_0 (N : Nat) (c : Int × Int × (List UInt8) × Int × (List lex_Token)) (next : (Int × Int) → Option ((List UInt8 × Int × List lex_Token) ⊕ (Int × Int × List UInt8 × Int × List lex_Token) ⊕ (List UInt8 × Int × List lex_Token))) (v : Int × Int) : Option ((List UInt8 × Int × List lex_Token) ⊕ (Int × Int × List UInt8 × Int × List lex_Token) ⊕ (List UInt8 × Int × List lex_Token)) := s_lex_scanner_number_v558_1 N c.1 c.2.1 c.2.2.1 c.2.2.2.1 c.2.2.2.2 (fun u0 u1 => next (u0, u1)) v.1 v.2
abbrev r_lex_scanner_number_v558_0 (N : Nat) : (Int × Int × (List UInt8) × Int × (List lex_Token)) × (Int × Int) → Option ((List UInt8 × Int × List lex_Token) ⊕ (Int × Int × List UInt8 × Int × List lex_Token) ⊕ (List UInt8 × Int × List lex_Token)) := fun a => loopV (f_lex_scanner_number_v558_0 N a.1) N a.2
def C_stringslite_IndexByte : Con tb := .s 109 [true, true] (.c .s (.c (.i .u8) .n)) (fun N a => s_stringslite_IndexByte N a.1 a.2.1) (R := Int) (.p (.i .i64)) (fun _ => ⟨rfl, (by kernel_rfl)⟩)
def C_strings_IndexByte : Con tb := .s 77 [true, true] (.c .s (.c (.i .u8) .n)) (fun N a => s_strings_IndexByte N a.1 a.2.1) (R := Int) (.p (.i .i64)) (fun _ => ⟨rfl, (by kernel_rfl)⟩)
def C_lex_base16 : Con tb := .s 116 [true] (.c (.i .u8) .n) (fun N a => s_lex_base16 N a.1) (R := Int) (.p (.i .i64)) (fun _ => ⟨rfl, (by kernel_rfl)⟩)
def C_real_of : Con tb := .s 139 [true] (.c (.i .u64) .n) (fun N a => s_real_of N a.1) (R := Nat) (.p (.f .f64)) (fun _ => ⟨rfl, (by kernel_rfl)⟩)
def C_real_Clean : Con tb := .s 117 [true] (.c (.i .u64) .n) (fun N a => s_real_Clean N a.1) (R := Int) (.p (.i .u64)) (fun _ => ⟨rfl, (by kernel_rfl)⟩)
def C_value_OfReal : Con tb := .s 118 [true] (.c (.i .u64) .n) (fun N a => s_value_OfReal N a.1) (R := value_Value) (.p (.el tb_ok 1)) (fun _ => ⟨rfl, (by kernel_rfl)⟩)
def C_lex_scanner_double_v558 : Con tb := .m 81 [false] (.c (.ptr 0 0) .n) (.c (.c .s (.c (.i .i64) (.c (.own 0) .n))) .n) (.l 0 .n) (fun N a => s_lex_scanner_double_v558 N a.2.1.1.1 a.2.1.1.2.1 a.2.2.1) (R := (List UInt8 × Int × List lex_Token) ⊕ (Int × Int × List UInt8 × Int × List lex_Token) ⊕ (List UInt8 × Int × List lex_Token)) (.or (.m (R := List UInt8 × Int × List lex_Token) .ni (.c (.c .s (.c (.i .i64) (.c (.own 0) .n))) .n) (.l 0 .n) (fun z => (z.2.1.1.1, z.2.1.1.2.1, z.2.2.1)) (fun r => ((), ((r.1, r.2.1, (), ()), ()), r.2.2, ())) (fun _ => rfl)) (.or (.m (R := Int × Int × List UInt8 × Int × List lex_Token) (.ifc 87 (.dp (.c (.i .i64) (.c (.i .i64) .n)))) (.c (.c .s (.c (.i .i64) (.c (.own 0) .n))) .n) (.l 0 .n) (fun z => (z.1.1, z.1.2.1, z.2.1.1.1, z.2.1.1.2.1, z.2.2.1)) (fun r => ((r.1, r.2.1, ()), ((r.2.2.1, r.2.2.2.1, (), ()), ()), r.2.2.2.2, ())) (fun _ => rfl)) (.m (R := List UInt8 × Int × List lex_Token) .ni (.c (.c .s (.c (.i .i64) (.c (.own 1) .n))) .n) (.d (.l 0 .n)) (fun z => (z.2.1.1.1, z.2.1.1.2.1, z.2.2.1)) (fun r => ((), ((r.1, r.2.1, (), ()), ()), r.2.2, ())) (fun _ => rfl))))
def q_lex_scanner_double_v558_0 : LQ tb (((List UInt8) × Int × (List lex_Token)) × (Int × Int)) := (LQ.m [] [0, 3, 19] (.c 0 (.ptr 0 0) (.c 3 (.i .u64) (.c 19 (.i .i64) .n))) (.c (.c .s (.c (.i .i64) (.c (.own 0) .n))) .n) (.l 0 .n)).re (fun a => ((a.2.1.1.1, a.2.1.1.2.1, a.2.2.1), (a.1.2.1, a.1.2.2.1))) (fun x => (((), x.2.1, x.2.2, ()), ((x.1.1, x.1.2.1, (), ()), ()), x.1.2.2, ())) (fun _ => rfl)
def f_lex_scanner_double_v558_0 (N : Nat) (c : (List UInt8) × Int × (List lex_Token)) (next : (Int × Int) → Option ((List UInt8 × Int × List lex_Token) ⊕ (Int × Int × List UInt8 × Int × List lex_Token) ⊕ (List UInt8 × Int × List lex_Token))) (v : Int × Int) : Option ((List UInt8 × Int × List lex_Token) ⊕ (Int × Int × List UInt8 × Int × List lex_Token) ⊕ (List UInt8 × Int × List lex_Token)) := s_lex_scanner_double_v558_1 N c.1 c.2.1 c.2.2 (fun u0 u1 => next (u0, u1)) v.1 v.2
abbrev r_lex_scanner_double_v558_0 (N : Nat) : ((List UInt8) × Int × (List lex_Token)) × (Int × Int) → Option ((List UInt8 × Int × List lex_Token) ⊕ (Int × Int × List UInt8 × Int × List lex_Token) ⊕ (List UInt8 × Int × List lex_Token)) := fun a => loopV (f_lex_scanner_double_v558_0 N a.1) N a.2
def C_lex_scanner_escaped_v359 : Con tb := .m 119 [false, true] (.c (.ptr 0 0) (.c (.i .i64) .n)) (.c (.c .s (.c (.i .i64) (.c (.own 0) .n))) .n) (.l 0 .n) (fun N a => s_lex_scanner_escaped_v359 N a.1.2.1 a.2.1.1.1 a.2.1.1.2.1 a.2.2.1) (R := Int × Bool × List UInt8 × Int × List lex_Token) (.m (R := Int × Bool × List UInt8 × Int × List lex_Token) (.tu (.c (.i .u8) (.o .b))) (.c (.c .s (.c (.i .i64) (.c (.own 0) .n))) .n) (.l 0 .n) (fun z => (z.1.1, z.1.2, z.2.1.1.1, z.2.1.1.2.1, z.2.2.1)) (fun r => ((r.1, r.2.1), ((r.2.2.1, r.2.2.2.1, (), ()), ()), r.2.2.2.2, ())) (fun _ => rfl))
def C_value_OfText : Con tb := .s 120 [true] (.c .s .n) (fun N a => s_value_OfText N a.1) (R := value_Value) (.p (.el tb_ok 1)) (fun _ => ⟨rfl, (by kernel_rfl)⟩)
def C_lex_scanner_quoted_v558 : Con tb := .m 82 [false] (.c (.ptr 0 0) .n) (.c (.c .s (.c (.i .i64) (.c (.own 0) .n))) .n) (.l 0 .n) (fun N a => s_lex_scanner_quoted_v558 N a.2.1.1.1 a.2.1.1.2.1 a.2.2.1) (R := (List UInt8 × Int × List lex_Token) ⊕ (Int × Int × List UInt8 × Int × List lex_Token) ⊕ (List UInt8 × Int × List lex_Token)) (.or (.m (R := List UInt8 × Int × List lex_Token) .ni (.c (.c .s (.c (.i .i64) (.c (.own 0) .n))) .n) (.l 0 .n) (fun z => (z.2.1.1.1, z.2.1.1.2.1, z.2.2.1)) (fun r => ((), ((r.1, r.2.1, (), ()), ()), r.2.2, ())) (fun _ => rfl)) (.or (.m (R := Int × Int × List UInt8 × Int × List lex_Token) (.ifc 87 (.dp (.c (.i .i64) (.c (.i .i64) .n)))) (.c (.c .s (.c (.i .i64) (.c (.own 0) .n))) .n) (.l 0 .n) (fun z => (z.1.1, z.1.2.1, z.2.1.1.1, z.2.1.1.2.1, z.2.2.1)) (fun r => ((r.1, r.2.1, ()), ((r.2.2.1, r.2.2.2.1, (), ()), ()), r.2.2.2.2, ())) (fun _ => rfl)) (.m (R := List UInt8 × Int × List lex_Token) .ni (.c (.c .s (.c (.i .i64) (.c (.own 1) .n))) .n) (.d (.l 0 .n)) (fun z => (z.2.1.1.1, z.2.1.1.2.1, z.2.2.1)) (fun r => ((), ((r.1, r.2.1, (), ()), ()), r.2.2, ())) (fun _ => rfl))))
def q_lex_scanner_quoted_v558_0 : LQ tb ((Unit) × (Int × (List UInt8) × Int × (List lex_Token) × (List Int))) := (LQ.m [(3, none, 2)] [0, 3, 4, 5] (.c 0 (.ptr 0 0) (.c 3 (.own 1) (.c 4 (.i .i64) (.c 5 (.lb false) .n)))) (.c (.c .s (.c (.i .i64) (.c (.own 0) .n))) .n) (.l 0 (.l 2 .n))).re (fun a => ((), (a.1.2.2.1, a.2.1.1.1, a.2.1.1.2.1, a.2.2.1, a.2.2.2.1))) (fun x => (((), (), x.2.1, (), ()), ((x.2.2.1, x.2.2.2.1, (), ()), ()), x.2.2.2.2.1, x.2.2.2.2.2, ())) (fun _ => rfl)
def f_lex_scanner_quoted_v558_0 (N : Nat) (c : Unit) (next : (Int × (List UInt8) × Int × (List lex_Token) × (List Int)) → Option ((List UInt8 × Int × List lex_Token) ⊕ (Int × Int × List UInt8 × Int × List lex_Token) ⊕ (List UInt8 × Int × List lex_Token))) (v : Int × (List UInt8) × Int × (List lex_Token) × (List Int)) : Option ((List UInt8 × Int × List lex_Token) ⊕ (Int × Int × List UInt8 × Int × List lex_Token) ⊕ (List UInt8 × Int × List lex_Token)) := s_lex_scanner_quoted_v558_1 N (fun u0 u1 u2 u3 u4 => next (u0, u1, u2, u3, u4)) v.1 v.2.1 v.2.2.1 v.2.2.2.1 v.2.2.2.2
abbrev r_lex_scanner_quoted_v558_0 (N : Nat) : (Unit) × (Int × (List UInt8) × Int × (List lex_Token) × (List Int)) → Option ((List UInt8 × Int × List lex_Token) ⊕ (Int × Int × List UInt8 × Int × List lex_Token) ⊕ (List UInt8 × Int × List lex_Token)) := fun a => loopV (f_lex_scanner_quoted_v558_0 N a.1) N a.2
def C_lex_scanner_sign_v558 : Con tb := .m 83 [false] (.c (.ptr 0 0) .n) (.c (.c .s (.c (.i .i64) (.c (.own 0) .n))) .n) (.l 0 .n) (fun N a => s_lex_scanner_sign_v558 N a.2.1.1.1 a.2.1.1.2.1 a.2.2.1) (R := List UInt8 × Int × List lex_Token) (.m (R := List UInt8 × Int × List lex_Token) .ni (.c (.c .s (.c (.i .i64) (.c (.own 1) .n))) .n) (.d (.l 0 .n)) (fun z => (z.2.1.1.1, z.2.1.1.2.1, z.2.2.1)) (fun r => ((), ((r.1, r.2.1, (), ()), ()), r.2.2, ())) (fun _ => rfl))
def C_lex_scanner_token_v558 : Con tb := .m 48 [false] (.c (.ptr 0 0) .n) (.c (.c .s (.c (.i .i64) (.c (.own 0) .n))) .n) (.l 0 .n) (fun N a => s_lex_scanner_token_v558 N a.2.1.1.1 a.2.1.1.2.1 a.2.2.1) (R := (List UInt8 × Int × List lex_Token) ⊕ (Int × Int × List UInt8 × Int × List lex_Token) ⊕ (List UInt8 × Int × List lex_Token)) (.or (.m (R := List UInt8 × Int × List lex_Token) .ni (.c (.c .s (.c (.i .i64) (.c (.own 0) .n))) .n) (.l 0 .n) (fun z => (z.2.1.1.1, z.2.1.1.2.1, z.2.2.1)) (fun r => ((), ((r.1, r.2.1, (), ()), ()), r.2.2, ())) (fun _ => rfl)) (.or (.m (R := Int × Int × List UInt8 × Int × List lex_Token) (.ifc 87 (.dp (.c (.i .i64) (.c (.i .i64) .n)))) (.c (.c .s (.c (.i .i64) (.c (.own 0) .n))) .n) (.l 0 .n) (fun z => (z.1.1, z.1.2.1, z.2.1.1.1, z.2.1.1.2.1, z.2.2.1)) (fun r => ((r.1, r.2.1, ()), ((r.2.2.1, r.2.2.2.1, (), ()), ()), r.2.2.2.2, ())) (fun _ => rfl)) (.m (R := List UInt8 × Int × List lex_Token) .ni (.c (.c .s (.c (.i .i64) (.c (.own 1) .n))) .n) (.d (.l 0 .n)) (fun z => (z.2.1.1.1, z.2.1.1.2.1, z.2.2.1)) (fun r => ((), ((r.1, r.2.1, (), ()), ()), r.2.2, ())) (fun _ => rfl))))
def C_lex_Scan : Con tb := .p 32 [true] (.c .s .n) (fun N a => s_lex_Scan N a.1) (R := (List lex_Token) ⊕ (List lex_Token × Int × Int)) (.or (.m (R := List lex_Token) (.tu (.c (.r 0) (.c .ni .n))) .n .n (fun z => z.1.1) (fun r => ((r, (), ()), (), ())) (fun _ => rfl)) (.m (R := List lex_Token × Int × Int) (.tu (.c (.r 0) (.o (.ifc 87 (.dp (.c (.i .i64) (.c (.i .i64) .n))))))) .n .n (fun z => (z.1.1, z.1.2.1, z.1.2.2.1)) (fun r => ((r.1, r.2.1, r.2.2, ()), (), ())) (fun _ => rfl))) (fun r => by rcases r with _ | _ <;> exact rfl)
def q_lex_Scan_0 : LQ tb (((List UInt8)) × ((List UInt8) × Int × (List lex_Token))) := (LQ.m [(4, some 2, 0)] [0, 4] (.c 0 .s (.c 4 (.ptr 0 0) .n)) (.c (.c .s (.c (.i .i64) (.c (.own 0) .n))) .n) (.l 0 .n)).re (fun a => (a.1.1, (a.2.1.1.1, a.2.1.1.2.1, a.2.2.1))) (fun x => ((x.1, (), ()), ((x.2.1, x.2.2.1, (), ()), ()), x.2.2.2, ())) (fun _ => rfl)
def f_lex_Scan_0 (N : Nat) (c : (List UInt8)) (next : ((List UInt8) × Int × (List lex_Token)) → Option ((List lex_Token) ⊕ (List lex_Token × Int × Int))) (v : (List UInt8) × Int × (List lex_Token)) : Option ((List lex_Token) ⊕ (List lex_Token × Int × Int)) := s_lex_Scan_1 N c (fun u0 u1 u2 => next (u0, u1, u2)) v.1 v.2.1 v.2.2
abbrev r_lex_Scan_0 (N : Nat) : ((List UInt8)) × ((List UInt8) × Int × (List lex_Token)) → Option ((List lex_Token) ⊕ (List lex_Token × Int × Int)) := fun a => loopV (f_lex_Scan_0 N a.1) N a.2
def C_predtext_parser_next_v424 : Con tb := .m 68 [false] (.c (.ptr 0 0) .n) (.c (.c (.r 0) (.c (.i .i64) (.c (.i .i64) .n))) .n) .n (fun N a => s_predtext_parser_next_v424 N a.2.1.1.1 a.2.1.1.2.1 a.2.1.1.2.2.1) (R := lex_Token × List lex_Token × Int × Int) (.m (R := lex_Token × List lex_Token × Int × Int) (.el tb_ok 0) (.c (.c (.r 0) (.c (.i .i64) (.c (.i .i64) .n))) .n) .n (fun z => (z.1, z.2.1.1.1, z.2.1.1.2.1, z.2.1.1.2.2.1)) (fun r => (r.1, ((r.2.1, r.2.2.1, r.2.2.2, ()), ()), ())) (fun _ => rfl))
def C_predtext_parser_place_v424 : Con tb := .m 26 [false] (.c (.ptr 0 0) .n) (.c (.c (.r 0) (.c (.i .i64) (.c (.i .i64) .n))) .n) .n (fun N a => s_predtext_parser_place_v424 N a.2.1.1.1 a.2.1.1.2.1 a.2.1.1.2.2.1) (R := Int × List lex_Token × Int × Int) (.m (R := Int × List lex_Token × Int × Int) (.i .i64) (.c (.c (.r 0) (.c (.i .i64) (.c (.i .i64) .n))) .n) .n (fun z => (z.1, z.2.1.1.1, z.2.1.1.2.1, z.2.1.1.2.2.1)) (fun r => (r.1, ((r.2.1, r.2.2.1, r.2.2.2, ()), ()), ())) (fun _ => rfl))
def C_predtext_parser_fail_v927 : Con tb := .m 98 [false, true] (.c (.ptr 0 0) (.c (.i .i64) .n)) (.c (.c (.r 0) (.c (.i .i64) (.c (.i .i64) .n))) .n) .n (fun N a => s_predtext_parser_fail_v927 N a.1.2.1 a.2.1.1.1 a.2.1.1.2.1 a.2.1.1.2.2.1) (R := Int × Int × List lex_Token × Int × Int) (.m (R := Int × Int × List lex_Token × Int × Int) (.ifc 16777287 (.ag (.c (.i .i64) (.c (.i .i64) .n)))) (.c (.c (.r 0) (.c (.i .i64) (.c (.i .i64) .n))) .n) .n (fun z => (z.1.1, z.1.2.1, z.2.1.1.1, z.2.1.1.2.1, z.2.1.1.2.2.1)) (fun r => ((r.1, r.2.1, ()), ((r.2.2.1, r.2.2.2.1, r.2.2.2.2, ()), ()), ())) (fun _ => rfl))
def C_predtext_parser_deeper_v927 : Con tb := .m 97 [false, true] (.c (.ptr 0 0) (.c (.i .i64) .n)) (.c (.c (.r 0) (.c (.i .i64) (.c (.i .i64) .n))) .n) .n (fun N a => s_predtext_parser_deeper_v927 N a.1.2.1 a.2.1.1.1 a.2.1.1.2.1 a.2.1.1.2.2.1) (R := (Int × Int × List lex_Token × Int × Int) ⊕ (List lex_Token × Int × Int)) (.or (.m (R := Int × Int × List lex_Token × Int × Int) (.ifc 16777287 (.ag (.c (.i .i64) (.c (.i .i64) .n)))) (.c (.c (.r 0) (.c (.i .i64) (.c (.i .i64) .n))) .n) .n (fun z => (z.1.1, z.1.2.1, z.2.1.1.1, z.2.1.1.2.1, z.2.1.1.2.2.1)) (fun r => ((r.1, r.2.1, ()), ((r.2.2.1, r.2.2.2.1, r.2.2.2.2, ()), ()), ())) (fun _ => rfl)) (.m (R := List lex_Token × Int × Int) (.tu .n) (.c (.c (.r 0) (.c (.i .i64) (.c (.i .i64) .n))) .n) .n (fun z => (z.2.1.1.1, z.2.1.1.2.1, z.2.1.1.2.2.1)) (fun r => ((), ((r.1, r.2.1, r.2.2, ()), ()), ())) (fun _ => rfl)))
def C_predtext_parser_eat_v368 : Con tb := .m 41 [false, true, true] (.c (.ptr 0 0) (.c (.i .u8) (.c .s .n))) (.c (.c (.r 0) (.c (.i .i64) (.c (.i .i64) .n))) .n) .n (fun N a => s_predtext_parser_eat_v368 N a.1.2.1 a.1.2.2.1 a.2.1.1.1 a.2.1.1.2.1 a.2.1.1.2.2.1) (R := Bool × List lex_Token × Int × Int) (.m (R := Bool × List lex_Token × Int × Int) .b (.c (.c (.r 0) (.c (.i .i64) (.c (.i .i64) .n))) .n) .n (fun z => (z.1, z.2.1.1.1, z.2.1.1.2.1, z.2.1.1.2.2.1)) (fun r => (r.1, ((r.2.1, r.2.2.1, r.2.2.2, ()), ()), ())) (fun _ => rfl))
def C_slices_Grow_pred_Node_own : Con tb := .m 102 [false, true] (.c .e (.c (.i .i64) .n)) .n .n (fun N a => s_slices_Grow_pred_Node_own N a.1.2.1) (R := List pred_Node) (.m (R := List pred_Node) (.own 0) .n (.l 3 .n) (fun z => z.2.2.1) (fun r => ((), (), r, ())) (fun _ => rfl))
def C_slices_Concat_pred_Node : Con tb := .p 69 [true] (.c (.r 4) .n) (fun N a => s_slices_Concat_pred_Node N a.1) (R := (List UInt8) ⊕ (List pred_Node)) (.or (.p (.ifc 16777225 .s)) (.p (.r 3))) (fun r => by rcases r with _ | _ <;> exact rfl)
def q_slices_Concat_pred_Node_0 : LQ tb (((List (List pred_Node)) × (List (List pred_Node)) × Int) × (Int × Int)) := (LQ.m [] [0, 3, 9, 10, 11] (.c 0 (.r 4) (.c 3 (.i .i64) (.c 9 (.r 4) (.c 10 (.i .i64) (.c 11 (.i .i64) .n))))) .n .n).re (fun a => ((a.1.1, a.1.2.2.1, a.1.2.2.2.1), (a.1.2.1, a.1.2.2.2.2.1))) (fun x => ((x.1.1, x.2.1, x.1.2.1, x.1.2.2, x.2.2, ()), (), ())) (fun _ => rfl)
def q_slices_Concat_pred_Node_2 : LQ tb (((List (List pred_Node)) × Int) × (Int × (List pred_Node))) := (LQ.m [] [6, 25, 26, 27] (.c 6 (.own 0) (.c 25 (.r 4) (.c 26 (.i .i64) (.c 27 (.i .i64) .n)))) .n (.l 3 .n)).re (fun a => ((a.1.2.1, a.1.2.2.1), (a.1.2.2.2.1, a.2.2.1))) (fun x => (((), x.1.1, x.1.2, x.2.1, ()), (), x.2.2, ())) (fun _ => rfl)
def f_slices_Concat_pred_Node_2 (N : Nat) (c : (List (List pred_Node)) × Int) (next : (Int × (List pred_Node)) → Option ((List UInt8) ⊕ (List pred_Node))) (v : Int × (List pred_Node)) : Option ((List UInt8) ⊕ (List pred_Node)) := s_slices_Concat_pred_Node_2 N c.1 c.2 (fun u0 u1 => next (u0, u1)) v.1 v.2
abbrev r_slices_Concat_pred_Node_2 (N : Nat) : ((List (List pred_Node)) × Int) × (Int × (List pred_Node)) → Option ((List UInt8) ⊕ (List pred_Node)) := fun a => loopV (f_slices_Concat_pred_Node_2 N a.1) N a.2
def f_slices_Concat_pred_Node_0 (N : Nat) (c : (List (List pred_Node)) × (List (List pred_Node)) × Int) (next : (Int × Int) → Option ((List UInt8) ⊕ (List pred_Node))) (v : Int × Int) : Option ((List UInt8) ⊕ (List pred_Node)) := s_slices_Concat_pred_Node_1 N c.1 c.2.1 c.2.2 (fun u0 u1 => next (u0, u1)) v.1 v.2
abbrev r_slices_Concat_pred_Node_0 (N : Nat) : ((List (List pred_Node)) × (List (List pred_Node)) × Int) × (Int × Int) → Option ((List UInt8) ⊕ (List pred_Node)) := fun a => loopV (f_slices_Concat_pred_Node_0 N a.1) N a.2
def C_predtext_above : Con tb := .p 42 [true, true] (.c (.el tb_ok 3) (.c (.r 4) .n)) (fun N a => s_predtext_above N a.1 a.2.1) (R := List pred_Node) (.p (.r 3)) (fun _ => rfl)
def C_predtext_parser_take_v128 : Con tb := .m 101 [false, true] (.c (.ptr 0 0) (.c (.i .u8) .n)) (.c (.c (.r 0) (.c (.i .i64) (.c (.i .i64) .n))) .n) .n (fun N a => s_predtext_parser_take_v128 N a.1.2.1 a.2.1.1.1 a.2.1.1.2.1 a.2.1.1.2.2.1) (R := (Int × Int × List lex_Token × Int × Int) ⊕ (lex_Token × List lex_Token × Int × Int)) (.or (.m (R := Int × Int × List lex_Token × Int × Int) (.ifc 16777287 (.ag (.c (.i .i64) (.c (.i .i64) .n)))) (.c (.c (.r 0) (.c (.i .i64) (.c (.i .i64) .n))) .n) .n (fun z => (z.1.1, z.1.2.1, z.2.1.1.1, z.2.1.1.2.1, z.2.1.1.2.2.1)) (fun r => ((r.1, r.2.1, ()), ((r.2.2.1, r.2.2.2.1, r.2.2.2.2, ()), ()), ())) (fun _ => rfl)) (.m (R := lex_Token × List lex_Token × Int × Int) (.el tb_ok 0) (.c (.c (.r 0) (.c (.i .i64) (.c (.i .i64) .n))) .n) .n (fun z => (z.1, z.2.1.1.1, z.2.1.1.2.1, z.2.1.1.2.2.1)) (fun r => (r.1, ((r.2.1, r.2.2.1, r.2.2.2, ()), ()), ())) (fun _ => rfl)))
def C_predtext_parser_unit_v424 : Con tb := .m 135 [false] (.c (.ptr 0 0) .n) (.c (.c (.r 0) (.c (.i .i64) (.c (.i .i64) .n))) .n) .n (fun N a => s_predtext_parser_unit_v424 N a.2.1.1.1 a.2.1.1.2.1 a.2.1.1.2.2.1) (R := (Int × Int × List lex_Token × Int × Int) ⊕ (List pred_Node × List lex_Token × Int × Int)) (.or (.m (R := Int × Int × List lex_Token × Int × Int) (.ifc 16777287 (.ag (.c (.i .i64) (.c (.i .i64) .n)))) (.c (.c (.r 0) (.c (.i .i64) (.c (.i .i64) .n))) .n) .n (fun z => (z.1.1, z.1.2.1, z.2.1.1.1, z.2.1.1.2.1, z.2.1.1.2.2.1)) (fun r => ((r.1, r.2.1, ()), ((r.2.2.1, r.2.2.2.1, r.2.2.2.2, ()), ()), ())) (fun _ => rfl)) (.m (R := List pred_Node × List lex_Token × Int × Int) (.r 3) (.c (.c (.r 0) (.c (.i .i64) (.c (.i .i64) .n))) .n) .n (fun z => (z.1, z.2.1.1.1, z.2.1.1.2.1, z.2.1.1.2.2.1)) (fun r => (r.1, ((r.2.1, r.2.2.1, r.2.2.2, ()), ()), ())) (fun _ => rfl)))
def C_predtext_parser_sum_v424 : Con tb := .m 99 [false] (.c (.ptr 0 0) .n) (.c (.c (.r 0) (.c (.i .i64) (.c (.i .i64) .n))) .n) .n (fun N a => s_predtext_parser_sum_v424 N a.2.1.1.1 a.2.1.1.2.1 a.2.1.1.2.2.1) (R := (Int × Int × List lex_Token × Int × Int) ⊕ (List pred_Node × List lex_Token × Int × Int)) (.or (.m (R := Int × Int × List lex_Token × Int × Int) (.ifc 16777287 (.ag (.c (.i .i64) (.c (.i .i64) .n)))) (.c (.c (.r 0) (.c (.i .i64) (.c (.i .i64) .n))) .n) .n (fun z => (z.1.1, z.1.2.1, z.2.1.1.1, z.2.1.1.2.1, z.2.1.1.2.2.1)) (fun r => ((r.1, r.2.1, ()), ((r.2.2.1, r.2.2.2.1, r.2.2.2.2, ()), ()), ())) (fun _ => rfl)) (.m (R := List pred_Node × List lex_Token × Int × Int) (.r 3) (.c (.c (.r 0) (.c (.i .i64) (.c (.i .i64) .n))) .n) .n (fun z => (z.1, z.2.1.1.1, z.2.1.1.2.1, z.2.1.1.2.2.1)) (fun r => (r.1, ((r.2.1, r.2.2.1, r.2.2.2, ()), ()), ())) (fun _ => rfl)))
def q_predtext_parser_sum_v424_0 : LQ tb ((Unit) × ((List pred_Node) × (List lex_Token) × Int × Int)) := (LQ.m [] [0, 3] (.c 0 (.ptr 0 0) (.c 3 (.r 3) .n)) (.c (.c (.r 0) (.c (.i .i64) (.c (.i .i64) .n))) .n) .n).re (fun a => ((), (a.1.2.1, a.2.1.1.1, a.2.1.1.2.1, a.2.1.1.2.2.1))) (fun x => (((), x.2.1, ()), ((x.2.2.1, x.2.2.2.1, x.2.2.2.2, ()), ()), ())) (fun _ => rfl)
def f_predtext_parser_sum_v424_0 (N : Nat) (c : Unit) (next : ((List pred_Node) × (List lex_Token) × Int × Int) → Option ((Int × Int × List lex_Token × Int × Int) ⊕ (List pred_Node × List lex_Token × Int × Int))) (v : (List pred_Node) × (List lex_Token) × Int × Int) : Option ((Int × Int × List lex_Token × Int × Int) ⊕ (List pred_Node × List lex_Token × Int × Int)) := s_predtext_parser_sum_v424_1 N (fun u0 u1 u2 u3 => next (u0, u1, u2, u3)) v.1 v.2.1 v.2.2.1 v.2.2.2
abbrev r_predtext_parser_sum_v424_0 (N : Nat) : (Unit) × ((List pred_Node) × (List lex_Token) × Int × Int) → Option ((Int × Int × List lex_Token × Int × Int) ⊕ (List pred_Node × List lex_Token × Int × Int)) := fun a => loopV (f_predtext_parser_sum_v424_0 N a.1) N a.2
def C_compare_Sign : Con tb := .s 59 [true] (.c (.i .u8) .n) (fun N a => s_compare_Sign N a.1) (R := List UInt8) (.p .s) (fun _ => ⟨rfl, (by kernel_rfl)⟩)
def C_compare_Op : Con tb := .s 100 [true] (.c .s .n) (fun N a => s_compare_Op N a.1) (R := Int) (.p (.i .u8)) (fun _ => ⟨rfl, (by kernel_rfl)⟩)
def q_compare_Op_0 : LQ tb (((List UInt8)) × (Int)) := (LQ.m [] [0, 3] (.c 0 .s (.c 3 (.i .u8) .n)) .n .n).re (fun a => (a.1.1, a.1.2.1)) (fun x => ((x.1, x.2, ()), (), ())) (fun _ => rfl)
def f_compare_Op_0 (N : Nat) (c : (List UInt8)) (next : Int → Option Int) (v : Int) : Option Int := s_compare_Op_1 N c (fun u0 => next u0) v
abbrev r_compare_Op_0 (N : Nat) : ((List UInt8)) × (Int) → Option Int := fun a => loopV (f_compare_Op_0 N a.1) N a.2
def C_predtext_parser_or_v927 : Con tb := .m 28 [false, true] (.c (.ptr 0 0) (.c (.i .i64) .n)) (.c (.c (.r 0) (.c (.i .i64) (.c (.i .i64) .n))) .n) .n (fun N a => s_predtext_parser_or_v927 N a.1.2.1 a.2.1.1.1 a.2.1.1.2.1 a.2.1.1.2.2.1) (R := (Int × Int × List lex_Token × Int × Int) ⊕ (List pred_Node × List lex_Token × Int × Int)) (.or (.m (R := Int × Int × List lex_Token × Int × Int) (.ifc 16777287 (.ag (.c (.i .i64) (.c (.i .i64) .n)))) (.c (.c (.r 0) (.c (.i .i64) (.c (.i .i64) .n))) .n) .n (fun z => (z.1.1, z.1.2.1, z.2.1.1.1, z.2.1.1.2.1, z.2.1.1.2.2.1)) (fun r => ((r.1, r.2.1, ()), ((r.2.2.1, r.2.2.2.1, r.2.2.2.2, ()), ()), ())) (fun _ => rfl)) (.m (R := List pred_Node × List lex_Token × Int × Int) (.r 3) (.c (.c (.r 0) (.c (.i .i64) (.c (.i .i64) .n))) .n) .n (fun z => (z.1, z.2.1.1.1, z.2.1.1.2.1, z.2.1.1.2.2.1)) (fun r => (r.1, ((r.2.1, r.2.2.1, r.2.2.2, ()), ()), ())) (fun _ => rfl)))
def q_predtext_parser_or_v927_0 : LQ tb ((Int) × ((List pred_Node) × (List lex_Token) × Int × Int)) := (LQ.m [] [0, 1, 5] (.c 0 (.ptr 0 0) (.c 1 (.i .i64) (.c 5 (.r 3) .n))) (.c (.c (.r 0) (.c (.i .i64) (.c (.i .i64) .n))) .n) .n).re (fun a => (a.1.2.1, (a.1.2.2.1, a.2.1.1.1, a.2.1.1.2.1, a.2.1.1.2.2.1))) (fun x => (((), x.1, x.2.1, ()), ((x.2.2.1, x.2.2.2.1, x.2.2.2.2, ()), ()), ())) (fun _ => rfl)
def f_predtext_parser_or_v927_0 (N : Nat) (c : Int) (next : ((List pred_Node) × (List lex_Token) × Int × Int) → Option ((Int × Int × List lex_Token × Int × Int) ⊕ (List pred_Node × List lex_Token × Int × Int))) (v : (List pred_Node) × (List lex_Token) × Int × Int) : Option ((Int × Int × List lex_Token × Int × Int) ⊕ (List pred_Node × List lex_Token × Int × Int)) := s_predtext_parser_or_v927_1 N (SS_predtext_parser_or_v927 N) c (fun u0 u1 u2 u3 => next (u0, u1, u2, u3)) v.1 v.2.1 v.2.2.1 v.2.2.2
abbrev r_predtext_parser_or_v927_0 (N : Nat) : (Int) × ((List pred_Node) × (List lex_Token) × Int × Int) → Option ((Int × Int × List lex_Token × Int × Int) ⊕ (List pred_Node × List lex_Token × Int × Int)) := fun a => loopV (f_predtext_parser_or_v927_0 N a.1) N a.2
def C_predtext_parser_and_v927 : Con tb := .m 40 [false, true] (.c (.ptr 0 0) (.c (.i .i64) .n)) (.c (.c (.r 0) (.c (.i .i64) (.c (.i .i64) .n))) .n) .n (fun N a => s_predtext_parser_and_v927 N a.1.2.1 a.2.1.1.1 a.2.1.1.2.1 a.2.1.1.2.2.1) (R := (Int × Int × List lex_Token × Int × Int) ⊕ (List pred_Node × List lex_Token × Int × Int)) (.or (.m (R := Int × Int × List lex_Token × Int × Int) (.ifc 16777287 (.ag (.c (.i .i64) (.c (.i .i64) .n)))) (.c (.c (.r 0) (.c (.i .i64) (.c (.i .i64) .n))) .n) .n (fun z => (z.1.1, z.1.2.1, z.2.1.1.1, z.2.1.1.2.1, z.2.1.1.2.2.1)) (fun r => ((r.1, r.2.1, ()), ((r.2.2.1, r.2.2.2.1, r.2.2.2.2, ()), ()), ())) (fun _ => rfl)) (.m (R := List pred_Node × List lex_Token × Int × Int) (.r 3) (.c (.c (.r 0) (.c (.i .i64) (.c (.i .i64) .n))) .n) .n (fun z => (z.1, z.2.1.1.1, z.2.1.1.2.1, z.2.1.1.2.2.1)) (fun r => (r.1, ((r.2.1, r.2.2.1, r.2.2.2, ()), ()), ())) (fun _ => rfl)))
def q_predtext_parser_and_v927_0 : LQ tb ((Int) × ((List pred_Node) × (List lex_Token) × Int × Int)) := (LQ.m [] [0, 1, 5] (.c 0 (.ptr 0 0) (.c 1 (.i .i64) (.c 5 (.r 3) .n))) (.c (.c (.r 0) (.c (.i .i64) (.c (.i .i64) .n))) .n) .n).re (fun a => (a.1.2.1, (a.1.2.2.1, a.2.1.1.1, a.2.1.1.2.1, a.2.1.1.2.2.1))) (fun x => (((), x.1, x.2.1, ()), ((x.2.2.1, x.2.2.2.1, x.2.2.2.2, ()), ()), ())) (fun _ => rfl)
def f_predtext_parser_and_v927_0 (N : Nat) (c : Int) (next : ((List pred_Node) × (List lex_Token) × Int × Int) → Option ((Int × Int × List lex_Token × Int × Int) ⊕ (List pred_Node × List lex_Token × Int × Int))) (v : (List pred_Node) × (List lex_Token) × Int × Int) : Option ((Int × Int × List lex_Token × Int × Int) ⊕ (List pred_Node × List lex_Token × Int × Int)) := s_predtext_parser_and_v927_1 N (SS_predtext_parser_or_v927 N) c (fun u0 u1 u2 u3 => next (u0, u1, u2, u3)) v.1 v.2.1 v.2.2.1 v.2.2.2
abbrev r_predtext_parser_and_v927_0 (N : Nat) : (Int) × ((List pred_Node) × (List lex_Token) × Int × Int) → Option ((Int × Int × List lex_Token × Int × Int) ⊕ (List pred_Node × List lex_Token × Int × Int)) := fun a => loopV (f_predtext_parser_and_v927_0 N a.1) N a.2
def C_predtext_parser_part_v927 : Con tb := .m 67 [false, true] (.c (.ptr 0 0) (.c (.i .i64) .n)) (.c (.c (.r 0) (.c (.i .i64) (.c (.i .i64) .n))) .n) .n (fun N a => s_predtext_parser_part_v927 N a.1.2.1 a.2.1.1.1 a.2.1.1.2.1 a.2.1.1.2.2.1) (R := (Int × Int × List lex_Token × Int × Int) ⊕ (List pred_Node × List lex_Token × Int × Int)) (.or (.m (R := Int × Int × List lex_Token × Int × Int) (.ifc 16777287 (.ag (.c (.i .i64) (.c (.i .i64) .n)))) (.c (.c (.r 0) (.c (.i .i64) (.c (.i .i64) .n))) .n) .n (fun z => (z.1.1, z.1.2.1, z.2.1.1.1, z.2.1.1.2.1, z.2.1.1.2.2.1)) (fun r => ((r.1, r.2.1, ()), ((r.2.2.1, r.2.2.2.1, r.2.2.2.2, ()), ()), ())) (fun _ => rfl)) (.m (R := List pred_Node × List lex_Token × Int × Int) (.r 3) (.c (.c (.r 0) (.c (.i .i64) (.c (.i .i64) .n))) .n) .n (fun z => (z.1, z.2.1.1.1, z.2.1.1.2.1, z.2.1.1.2.2.1)) (fun r => (r.1, ((r.2.1, r.2.2.1, r.2.2.2, ()), ()), ())) (fun _ => rfl)))
def C_pred_Node_stands : Con tb := .s 51 [true, true] (.c (.el tb_ok 3) (.c (.i .i64) .n)) (fun N a => s_pred_Node_stands N a.1 a.2.1) (R := Bool) (.p .b) (fun _ => ⟨rfl, (by kernel_rfl)⟩)
def C_schema_letter : Con tb := .s 129 [true] (.c (.i .u8) .n) (fun N a => s_schema_letter N a.1) (R := Bool) (.p .b) (fun _ => ⟨rfl, (by kernel_rfl)⟩)
def C_schema_tail : Con tb := .s 130 [true] (.c (.i .u8) .n) (fun N a => s_schema_tail N a.1) (R := Bool) (.p .b) (fun _ => ⟨rfl, (by kernel_rfl)⟩)
def C_schema_Name : Con tb := .s 89 [true] (.c .s .n) (fun N a => s_schema_Name N a.1) (R := Bool) (.p .b) (fun _ => ⟨rfl, (by kernel_rfl)⟩)
def q_schema_Name_0 : LQ tb (((List UInt8)) × (Int)) := (LQ.m [] [0, 3] (.c 0 .s (.c 3 (.i .i64) .n)) .n .n).re (fun a => (a.1.1, a.1.2.1)) (fun x => ((x.1, x.2, ()), (), ())) (fun _ => rfl)
def f_schema_Name_0 (N : Nat) (c : (List UInt8)) (next : Int → Option Bool) (v : Int) : Option Bool := s_schema_Name_1 N c (fun u0 => next u0) v
abbrev r_schema_Name_0 (N : Nat) : ((List UInt8)) × (Int) → Option Bool := fun a => loopV (f_schema_Name_0 N a.1) N a.2
def C_value_core : Con tb := .p 131 [true] (.c (.el tb_ok 1) .n) (fun N a => s_value_core N a.1) (R := Int ⊕ Int ⊕ Int ⊕ (List UInt8) ⊕ Unit) (.or (.p (.ifc 196 (.i .i64))) (.or (.p (.ifc 197 (.i .i64))) (.or (.p (.ifc 198 (.i .u64))) (.or (.p (.ifc 199 .s)) (.p .ni))))) (fun r => by rcases r with _ | _ | _ | _ | _ <;> exact rfl)
def C_value_number_whole : Con tb := .s 180 [true] (.c (.i .i64) .n) (fun N a => s_value_number_whole N a.1) (R := value_Value) (.p (.el tb_ok 1)) (fun _ => ⟨rfl, (by kernel_rfl)⟩)
def C_value_flag_whole : Con tb := .s 181 [true] (.c (.i .i64) .n) (fun N a => s_value_flag_whole N a.1) (R := value_Value) (.p (.el tb_ok 1)) (fun _ => ⟨rfl, (by kernel_rfl)⟩)
def C_value_double_whole : Con tb := .s 182 [true] (.c (.i .u64) .n) (fun N a => s_value_double_whole N a.1) (R := value_Value) (.p (.el tb_ok 1)) (fun _ => ⟨rfl, (by kernel_rfl)⟩)
def C_value_words_whole : Con tb := .s 183 [true] (.c .s .n) (fun N a => s_value_words_whole N a.1) (R := value_Value) (.p (.el tb_ok 1)) (fun _ => ⟨rfl, (by kernel_rfl)⟩)
def C_value_Check : Con tb := .s 90 [true] (.c (.el tb_ok 1) .n) (fun N a => s_value_Check N a.1) (R := Int) (.p (.i .i64)) (fun _ => ⟨rfl, (by kernel_rfl)⟩)
def C_pred_Node_lacks : Con tb := .s 53 [true] (.c (.el tb_ok 3) .n) (fun N a => s_pred_Node_lacks N a.1) (R := Bool) (.p .b) (fun _ => ⟨rfl, (by kernel_rfl)⟩)
def C_pred_is_v782 : Con tb := .s 52 [true, false, true] (.c (.el tb_ok 3) (.c (.fn 53 .n .n) (.c (.i .i64) .n))) (fun N a => s_pred_is_v782 N a.1 a.2.2.1) (R := Int) (.p (.i .i64)) (fun _ => ⟨rfl, (by kernel_rfl)⟩)
def C_pred_Node_more : Con tb := .s 54 [true] (.c (.el tb_ok 3) .n) (fun N a => s_pred_Node_more N a.1) (R := Bool) (.p .b) (fun _ => ⟨rfl, (by kernel_rfl)⟩)
def C_pred_is_v272 : Con tb := .s 52 [true, false, true] (.c (.el tb_ok 3) (.c (.fn 54 .n .n) (.c (.i .i64) .n))) (fun N a => s_pred_is_v272 N a.1 a.2.2.1) (R := Int) (.p (.i .i64)) (fun _ => ⟨rfl, (by kernel_rfl)⟩)
def C_pred_Kids : Con tb := .s 55 [true] (.c (.i .u8) .n) (fun N a => s_pred_Kids N a.1) (R := Int) (.p (.i .i64)) (fun _ => ⟨rfl, (by kernel_rfl)⟩)
def C_pred_Node_kid : Con tb := .s 56 [true, true] (.c (.el tb_ok 3) (.c (.i .i64) .n)) (fun N a => s_pred_Node_kid N a.1 a.2.1) (R := Int) (.p (.i .i64)) (fun _ => ⟨rfl, (by kernel_rfl)⟩)
def C_pred_checker_tree_v739 : Con tb := .m 35 [false, true, true] (.c (.ptr 0 0) (.c (.i .i64) (.c (.i .i64) .n))) (.c (.c (.r 3) (.c (.i .i64) .n)) .n) .n (fun N a => s_pred_checker_tree_v739 N a.1.2.1 a.1.2.2.1 a.2.1.1.1 a.2.1.1.2.1) (R := Int × List pred_Node × Int) (.m (R := Int × List pred_Node × Int) (.i .i64) (.c (.c (.r 3) (.c (.i .i64) .n)) .n) .n (fun z => (z.1, z.2.1.1.1, z.2.1.1.2.1)) (fun r => (r.1, ((r.2.1, r.2.2, ()), ()), ())) (fun _ => rfl))
def q_pred_checker_tree_v739_0 : LQ tb ((Int × Int × Int × Int × (List UInt8) × (List UInt8) × Int × Int × Int × (List UInt8)) × (Int × (List pred_Node) × Int)) := (LQ.m [] [0, 2, 7, 57, 58] (.c 0 (.ptr 0 0) (.c 2 (.i .i64) (.c 7 (.ptr 1 0) (.c 57 (.i .i64) (.c 58 (.i .i64) .n))))) (.c (.c (.r 3) (.c (.i .i64) .n)) (.c (.c (.i .u8) (.c (.i .u8) (.c .s (.c .s (.c (.i .u8) (.c (.i .i64) (.c (.i .u64) (.c .s .n)))))))) .n)) .n).re (fun a => ((a.1.2.1, a.1.2.2.2.1, a.2.1.2.1.1, a.2.1.2.1.2.1, a.2.1.2.1.2.2.1, a.2.1.2.1.2.2.2.1, a.2.1.2.1.2.2.2.2.1, a.2.1.2.1.2.2.2.2.2.1, a.2.1.2.1.2.2.2.2.2.2.1, a.2.1.2.1.2.2.2.2.2.2.2.1), (a.1.2.2.2.2.1, a.2.1.1.1, a.2.1.1.2.1))) (fun x => (((), x.1.1, (), x.1.2.1, x.2.1, ()), ((x.2.2.1, x.2.2.2, ()), (x.1.2.2.1, x.1.2.2.2.1, x.1.2.2.2.2.1, x.1.2.2.2.2.2.1, x.1.2.2.2.2.2.2.1, x.1.2.2.2.2.2.2.2.1, x.1.2.2.2.2.2.2.2.2.1, x.1.2.2.2.2.2.2.2.2.2, ()), ()), ())) (fun _ => rfl)
def f_pred_checker_tree_v739_0 (N : Nat) (c : Int × Int × Int × Int × (List UInt8) × (List UInt8) × Int × Int × Int × (List UInt8)) (next : (Int × (List pred_Node) × Int) → Option (Int × List pred_Node × Int)) (v : Int × (List pred_Node) × Int) : Option (Int × List pred_Node × Int) := s_pred_checker_tree_v739_1 N (SS_pred_checker_tree_v739 N) c.1 c.2.1 c.2.2.1 c.2.2.2.1 c.2.2.2.2.1 c.2.2.2.2.2.1 c.2.2.2.2.2.2.1 c.2.2.2.2.2.2.2.1 c.2.2.2.2.2.2.2.2.1 c.2.2.2.2.2.2.2.2.2 (fun u0 u1 u2 => next (u0, u1, u2)) v.1 v.2.1 v.2.2
abbrev r_pred_checker_tree_v739_0 (N : Nat) : (Int × Int × Int × Int × (List UInt8) × (List UInt8) × Int × Int × Int × (List UInt8)) × (Int × (List pred_Node) × Int) → Option (Int × List pred_Node × Int) := fun a => loopV (f_pred_checker_tree_v739_0 N a.1) N a.2
def C_pred_Check : Con tb := .s 19 [true] (.c (.r 3) .n) (fun N a => s_pred_Check N a.1) (R := Int) (.p (.i .i64)) (fun _ => ⟨rfl, (by kernel_rfl)⟩)
def C_predtext_Parse : Con tb := .p 9 [true, true, true] (.c (.r 0) (.c (.i .i64) (.c (.i .i64) .n))) (fun N a => s_predtext_Parse N a.1 a.2.1 a.2.2.1) (R := (List pred_Node × Int) ⊕ (List pred_Node × Int × Int × Int)) (.or (.m (R := List pred_Node × Int) (.tu (.c (.r 3) (.c (.i .i64) (.c .ni .n)))) .n .n (fun z => (z.1.1, z.1.2.1)) (fun r => ((r.1, r.2, (), ()), (), ())) (fun _ => rfl)) (.m (R := List pred_Node × Int × Int × Int) (.tu (.c (.r 3) (.c (.i .i64) (.o (.ifc 87 (.dp (.c (.i .i64) (.c (.i .i64) .n)))))))) .n .n (fun z => (z.1.1, z.1.2.1, z.1.2.2.1, z.1.2.2.2.1)) (fun r => ((r.1, r.2.1, r.2.2.1, r.2.2.2, ()), (), ())) (fun _ => rfl))) (fun r => by rcases r with _ | _ <;> exact rfl)
def C_predtext_Read : Con tb := .p 15 [true] (.c .s .n) (fun N a => s_predtext_Read N a.1) (R := (List pred_Node) ⊕ (List pred_Node × Int × Int)) (.or (.m (R := List pred_Node) (.tu (.c (.r 3) (.c .ni .n))) .n .n (fun z => z.1.1) (fun r => ((r, (), ()), (), ())) (fun _ => rfl)) (.m (R := List pred_Node × Int × Int) (.tu (.c (.r 3) (.o (.ifc 87 (.dp (.c (.i .i64) (.c (.i .i64) .n))))))) .n .n (fun z => (z.1.1, z.1.2.1, z.1.2.2.1)) (fun r => ((r.1, r.2.1, r.2.2, ()), (), ())) (fun _ => rfl))) (fun r => by rcases r with _ | _ <;> exact rfl)
def C_pred_bound : Con tb := .s 91 [true] (.c (.i .u8) .n) (fun N a => s_pred_bound N a.1) (R := Int) (.p (.i .i64)) (fun _ => ⟨rfl, (by kernel_rfl)⟩)
def C_lex_whole : Con tb := .s 92 [true] (.c (.i .i64) .n) (fun N a => s_lex_whole N a.1) (R := List UInt8) (.p .s) (fun _ => ⟨rfl, (by kernel_rfl)⟩)
def C_lex_bits : Con tb := .s 93 [true] (.c (.i .u64) .n) (fun N a => s_lex_bits N a.1) (R := List UInt8) (.p .s) (fun _ => ⟨rfl, (by kernel_rfl)⟩)
def C_lex_text : Con tb := .s 94 [true] (.c .s .n) (fun N a => s_lex_text N a.1) (R := List UInt8) (.p .s) (fun _ => ⟨rfl, (by kernel_rfl)⟩)
def C_lex_Literal : Con tb := .s 60 [true] (.c (.el tb_ok 1) .n) (fun N a => s_lex_Literal N a.1) (R := List UInt8) (.p .s) (fun _ => ⟨rfl, (by kernel_rfl)⟩)
def C_pred_printer_tree_v501 : Con tb := .m 36 [false] (.c (.ptr 0 0) .n) (.c (.c (.r 3) (.c (.i .i64) .n)) .n) .n (fun N a => s_pred_printer_tree_v501 N a.2.1.1.1 a.2.1.1.2.1) (R := List UInt8 × List pred_Node × Int) (.m (R := List UInt8 × List pred_Node × Int) .s (.c (.c (.r 3) (.c (.i .i64) .n)) .n) .n (fun z => (z.1, z.2.1.1.1, z.2.1.1.2.1)) (fun r => (r.1, ((r.2.1, r.2.2, ()), ()), ())) (fun _ => rfl))
def C_pred_printer_two_v304 : Con tb := .m 57 [false, true, true, true] (.c (.ptr 0 0) (.c .s (.c (.i .i64) (.c (.i .i64) .n)))) (.c (.c (.r 3) (.c (.i .i64) .n)) .n) .n (fun N a => s_pred_printer_two_v304 N a.1.2.1 a.1.2.2.1 a.1.2.2.2.1 a.2.1.1.1 a.2.1.1.2.1) (R := List UInt8 × List pred_Node × Int) (.m (R := List UInt8 × List pred_Node × Int) .s (.c (.c (.r 3) (.c (.i .i64) .n)) .n) .n (fun z => (z.1, z.2.1.1.1, z.2.1.1.2.1)) (fun r => (r.1, ((r.2.1, r.2.2, ()), ()), ())) (fun _ => rfl))
def C_pred_printer_within_v996 : Con tb := .m 58 [false, true] (.c (.ptr 0 0) (.c (.i .i64) .n)) (.c (.c (.r 3) (.c (.i .i64) .n)) .n) .n (fun N a => s_pred_printer_within_v996 N a.1.2.1 a.2.1.1.1 a.2.1.1.2.1) (R := List UInt8 × List pred_Node × Int) (.m (R := List UInt8 × List pred_Node × Int) .s (.c (.c (.r 3) (.c (.i .i64) .n)) .n) .n (fun z => (z.1, z.2.1.1.1, z.2.1.1.2.1)) (fun r => (r.1, ((r.2.1, r.2.2, ()), ()), ())) (fun _ => rfl))
def C_pred_Print : Con tb := .s 20 [true] (.c (.r 3) .n) (fun N a => s_pred_Print N a.1) (R := List UInt8) (.p .s) (fun _ => ⟨rfl, (by kernel_rfl)⟩)
def C_fault_Code_n : Con tb := .s 23 [false] (.c .ni .n) (fun N a => s_fault_Code_n N) (R := Int) (.p (.i .i64)) (fun _ => ⟨rfl, (by kernel_rfl)⟩)
def C_fault_find_n : Con tb := .s 34 [false] (.c .ni .n) (fun N a => s_fault_find_n N) (R := Unit) (.p .np) (fun _ => ⟨rfl, (by kernel_rfl)⟩)
def C_fault_At_n : Con tb := .s 18 [false] (.c .ni .n) (fun N a => s_fault_At_n N) (R := Int) (.p (.i .i64)) (fun _ => ⟨rfl, (by kernel_rfl)⟩)
def C_fault_find_f : Con tb := .p 34 [false] (.c (.ifc 87 (.dp (.c (.i .i64) (.c (.i .i64) .n)))) .n) (fun N a => s_fault_find_f N a.1.1 a.1.2.1) (R := Int × Int) (.m (R := Int × Int) (.dp (.c (.i .i64) (.c (.i .i64) .n))) .n .n (fun z => (z.1.1, z.1.2.1)) (fun r => ((r.1, r.2, ()), (), ())) (fun _ => rfl)) (fun _ => rfl)
def C_fault_Code_f : Con tb := .s 23 [false] (.c (.ifc 87 (.dp (.c (.i .i64) (.c (.i .i64) .n)))) .n) (fun N a => s_fault_Code_f N a.1.1 a.1.2.1) (R := Int) (.p (.i .i64)) (fun _ => ⟨rfl, (by kernel_rfl)⟩)
def C_fault_At_f : Con tb := .s 18 [false] (.c (.ifc 87 (.dp (.c (.i .i64) (.c (.i .i64) .n)))) .n) (fun N a => s_fault_At_f N a.1.1 a.1.2.1) (R := Int) (.p (.i .i64)) (fun _ => ⟨rfl, (by kernel_rfl)⟩)
def C_law12_awake : Con tb := .s 8 [] .n (fun N a => s_law12_awake N) (R := Bool) (.p .b) (fun _ => ⟨rfl, (by kernel_rfl)⟩)
def C_ref06_Reserved : Con tb := .s 125 [true] (.c .s .n) (fun N a => s_ref06_Reserved N a.1) (R := Bool) (.p .b) (fun _ => ⟨rfl, (by kernel_rfl)⟩)
def q_ref06_Reserved_0 : LQ tb (((List UInt8) × (List (List UInt8))) × (Int)) := (LQ.m [] [0, 3, 4] (.c 0 .s (.c 3 (.own 0) (.c 4 (.i .i64) .n))) .n (.l 6 .n)).re (fun a => ((a.1.1, a.2.2.1), a.1.2.2.1)) (fun x => ((x.1.1, (), x.2, ()), (), x.1.2, ())) (fun _ => rfl)
def f_ref06_Reserved_0 (N : Nat) (c : (List UInt8) × (List (List UInt8))) (next : Int → Option Bool) (v : Int) : Option Bool := s_ref06_Reserved_1 N c.1 c.2 (fun u0 => next u0) v
abbrev r_ref06_Reserved_0 (N : Nat) : ((List UInt8) × (List (List UInt8))) × (Int) → Option Bool := fun a => loopV (f_ref06_Reserved_0 N a.1) N a.2
def C_ref03_Exp : Con tb := .s 143 [true] (.c (.i .u64) .n) (fun N a => s_ref03_Exp N a.1) (R := Int) (.p (.i .i64)) (fun _ => ⟨rfl, (by kernel_rfl)⟩)
def C_ref03_Frac : Con tb := .s 144 [true] (.c (.i .u64) .n) (fun N a => s_ref03_Frac N a.1) (R := Int) (.p (.i .u64)) (fun _ => ⟨rfl, (by kernel_rfl)⟩)
def C_ref03_Kind : Con tb := .s 140 [true] (.c (.i .u64) .n) (fun N a => s_ref03_Kind N a.1) (R := Int) (.p (.i .u8)) (fun _ => ⟨rfl, (by kernel_rfl)⟩)
def C_ref03_Clean : Con tb := .s 127 [true] (.c (.i .u64) .n) (fun N a => s_ref03_Clean N a.1) (R := Int) (.p (.i .u64)) (fun _ => ⟨rfl, (by kernel_rfl)⟩)
def C_ref12_is : Con tb := .s 44 [true, true, true] (.c (.el tb_ok 7) (.c (.i .u8) (.c .s .n))) (fun N a => s_ref12_is N a.1 a.2.1 a.2.2.1) (R := Bool) (.p .b) (fun _ => ⟨rfl, (by kernel_rfl)⟩)
def C_ref12_place : Con tb := .s 31 [true] (.c (.el tb_ok 7) .n) (fun N a => s_ref12_place N a.1) (R := Int) (.p (.i .i64)) (fun _ => ⟨rfl, (by kernel_rfl)⟩)
def C_ref12_fail : Con tb := .p 103 [true, true] (.c (.el tb_ok 7) (.c (.i .i64) .n)) (fun N a => s_ref12_fail N a.1 a.2.1) (R := ref12_State) (.p (.el tb_ok 7)) (fun _ => rfl)
def C_ref12_step : Con tb := .p 45 [true] (.c (.el tb_ok 7) .n) (fun N a => s_ref12_step N a.1) (R := ref12_State) (.p (.el tb_ok 7)) (fun _ => rfl)
def C_ref12_join : Con tb := .p 46 [true, true, true] (.c (.el tb_ok 3) (.c (.r 3) (.c (.r 3) .n))) (fun N a => s_ref12_join N a.1 a.2.1 a.2.2.1) (R := List pred_Node) (.p (.r 3)) (fun _ => rfl)
def C_ref12_kind : Con tb := .s 105 [true, true] (.c (.el tb_ok 7) (.c (.i .u8) .n)) (fun N a => s_ref12_kind N a.1 a.2.1) (R := Bool) (.p .b) (fun _ => ⟨rfl, (by kernel_rfl)⟩)
def C_ref12_unit : Con tb := .p 136 [true] (.c (.el tb_ok 7) .n) (fun N a => s_ref12_unit N a.1) (R := List pred_Node × ref12_State) (.p (.tu (.c (.r 3) (.o (.el tb_ok 7))))) (fun _ => rfl)
def C_ref12_sum : Con tb := .p 104 [true] (.c (.el tb_ok 7) .n) (fun N a => s_ref12_sum N a.1) (R := List pred_Node × ref12_State) (.p (.tu (.c (.r 3) (.o (.el tb_ok 7))))) (fun _ => rfl)
def q_ref12_sum_0 : LQ tb ((Unit) × ((List pred_Node) × (List lex_Token) × Int × Int × Int × Int)) := (LQ.m [] [1, 3, 4] (.c 1 (.ptr 0 0) (.c 3 (.ptr 1 0) (.c 4 (.r 3) .n))) (.c (.c (.r 0) (.c (.i .i64) (.c (.i .i64) (.c (.i .i64) (.c (.i .i64) .n))))) (.c (.c .e (.c (.li .i64 0) (.c (.li .i64 0) (.c (.li .i64 0) (.c (.li .i64 0) .n))))) .n)) .n).re (fun a => ((), (a.1.2.2.1, a.2.1.1.1, a.2.1.1.2.1, a.2.1.1.2.2.1, a.2.1.1.2.2.2.1, a.2.1.1.2.2.2.2.1))) (fun x => (((), (), x.2.1, ()), ((x.2.2.1, x.2.2.2.1, x.2.2.2.2.1, x.2.2.2.2.2.1, x.2.2.2.2.2.2, ()), ((), (), (), (), (), ()), ()), ())) (fun _ => rfl)
def f_ref12_sum_0 (N : Nat) (c : Unit) (next : ((List pred_Node) × (List lex_Token) × Int × Int × Int × Int) → Option (List pred_Node × ref12_State)) (v : (List pred_Node) × (List lex_Token) × Int × Int × Int × Int) : Option (List pred_Node × ref12_State) := s_ref12_sum_1 N (fun u0 u1 u2 u3 u4 u5 => next (u0, u1, u2, u3, u4, u5)) v.1 v.2.1 v.2.2.1 v.2.2.2.1 v.2.2.2.2.1 v.2.2.2.2.2
abbrev r_ref12_sum_0 (N : Nat) : (Unit) × ((List pred_Node) × (List lex_Token) × Int × Int × Int × Int) → Option (List pred_Node × ref12_State) := fun a => loopV (f_ref12_sum_0 N a.1) N a.2
def C_ref05_Sign : Con tb := .s 137 [true] (.c (.i .u8) .n) (fun N a => s_ref05_Sign N a.1) (R := List UInt8) (.p .s) (fun _ => ⟨rfl, (by kernel_rfl)⟩)
def C_ref05_Op : Con tb := .s 106 [true] (.c .s .n) (fun N a => s_ref05_Op N a.1) (R := Int) (.p (.i .u8)) (fun _ => ⟨rfl, (by kernel_rfl)⟩)
def q_ref05_Op_0 : LQ tb (((List UInt8)) × (Int)) := (LQ.m [] [0, 3] (.c 0 .s (.c 3 (.i .u8) .n)) .n .n).re (fun a => (a.1.1, a.1.2.1)) (fun x => ((x.1, x.2, ()), (), ())) (fun _ => rfl)
def f_ref05_Op_0 (N : Nat) (c : (List UInt8)) (next : Int → Option Int) (v : Int) : Option Int := s_ref05_Op_1 N c (fun u0 => next u0) v
abbrev r_ref05_Op_0 (N : Nat) : ((List UInt8)) × (Int) → Option Int := fun a => loopV (f_ref05_Op_0 N a.1) N a.2
def C_ref12_or : Con tb := .p 29 [true, true] (.c (.el tb_ok 7) (.c (.i .i64) .n)) (fun N a => s_ref12_or N a.1 a.2.1) (R := List pred_Node × ref12_State) (.p (.tu (.c (.r 3) (.o (.el tb_ok 7))))) (fun _ => rfl)
def q_ref12_or_0 : LQ tb ((Int) × ((List pred_Node) × (List lex_Token) × Int × Int × Int × Int)) := (LQ.m [] [1, 2, 5, 6] (.c 1 (.i .i64) (.c 2 (.ptr 0 0) (.c 5 (.ptr 1 0) (.c 6 (.r 3) .n)))) (.c (.c (.r 0) (.c (.i .i64) (.c (.i .i64) (.c (.i .i64) (.c (.i .i64) .n))))) (.c (.c .e (.c (.li .i64 0) (.c (.li .i64 0) (.c (.li .i64 0) (.c (.li .i64 0) .n))))) .n)) .n).re (fun a => (a.1.1, (a.1.2.2.2.1, a.2.1.1.1, a.2.1.1.2.1, a.2.1.1.2.2.1, a.2.1.1.2.2.2.1, a.2.1.1.2.2.2.2.1))) (fun x => ((x.1, (), (), x.2.1, ()), ((x.2.2.1, x.2.2.2.1, x.2.2.2.2.1, x.2.2.2.2.2.1, x.2.2.2.2.2.2, ()), ((), (), (), (), (), ()), ()), ())) (fun _ => rfl)
def f_ref12_or_0 (N : Nat) (c : Int) (next : ((List pred_Node) × (List lex_Token) × Int × Int × Int × Int) → Option (List pred_Node × ref12_State)) (v : (List pred_Node) × (List lex_Token) × Int × Int × Int × Int) : Option (List pred_Node × ref12_State) := s_ref12_or_1 N (SS_ref12_or N) c (fun u0 u1 u2 u3 u4 u5 => next (u0, u1, u2, u3, u4, u5)) v.1 v.2.1 v.2.2.1 v.2.2.2.1 v.2.2.2.2.1 v.2.2.2.2.2
abbrev r_ref12_or_0 (N : Nat) : (Int) × ((List pred_Node) × (List lex_Token) × Int × Int × Int × Int) → Option (List pred_Node × ref12_State) := fun a => loopV (f_ref12_or_0 N a.1) N a.2
def C_ref12_and : Con tb := .p 43 [true, true] (.c (.el tb_ok 7) (.c (.i .i64) .n)) (fun N a => s_ref12_and N a.1 a.2.1) (R := List pred_Node × ref12_State) (.p (.tu (.c (.r 3) (.o (.el tb_ok 7))))) (fun _ => rfl)
def q_ref12_and_0 : LQ tb ((Int) × ((List pred_Node) × (List lex_Token) × Int × Int × Int × Int)) := (LQ.m [] [1, 2, 5, 6] (.c 1 (.i .i64) (.c 2 (.ptr 0 0) (.c 5 (.ptr 1 0) (.c 6 (.r 3) .n)))) (.c (.c (.r 0) (.c (.i .i64) (.c (.i .i64) (.c (.i .i64) (.c (.i .i64) .n))))) (.c (.c .e (.c (.li .i64 0) (.c (.li .i64 0) (.c (.li .i64 0) (.c (.li .i64 0) .n))))) .n)) .n).re (fun a => (a.1.1, (a.1.2.2.2.1, a.2.1.1.1, a.2.1.1.2.1, a.2.1.1.2.2.1, a.2.1.1.2.2.2.1, a.2.1.1.2.2.2.2.1))) (fun x => ((x.1, (), (), x.2.1, ()), ((x.2.2.1, x.2.2.2.1, x.2.2.2.2.1, x.2.2.2.2.2.1, x.2.2.2.2.2.2, ()), ((), (), (), (), (), ()), ()), ())) (fun _ => rfl)
def f_ref12_and_0 (N : Nat) (c : Int) (next : ((List pred_Node) × (List lex_Token) × Int × Int × Int × Int) → Option (List pred_Node × ref12_State)) (v : (List pred_Node) × (List lex_Token) × Int × Int × Int × Int) : Option (List pred_Node × ref12_State) := s_ref12_and_1 N (SS_ref12_or N) c (fun u0 u1 u2 u3 u4 u5 => next (u0, u1, u2, u3, u4, u5)) v.1 v.2.1 v.2.2.1 v.2.2.2.1 v.2.2.2.2.1 v.2.2.2.2.2
abbrev r_ref12_and_0 (N : Nat) : (Int) × ((List pred_Node) × (List lex_Token) × Int × Int × Int × Int) → Option (List pred_Node × ref12_State) := fun a => loopV (f_ref12_and_0 N a.1) N a.2
def C_ref12_part : Con tb := .p 70 [true, true] (.c (.el tb_ok 7) (.c (.i .i64) .n)) (fun N a => s_ref12_part N a.1 a.2.1) (R := List pred_Node × ref12_State) (.p (.tu (.c (.r 3) (.o (.el tb_ok 7))))) (fun _ => rfl)
def C_ref11_may : Con tb := .s 71 [true, true] (.c (.i .u8) (.c (.i .i64) .n)) (fun N a => s_ref11_may N a.1 a.2.1) (R := Bool) (.p .b) (fun _ => ⟨rfl, (by kernel_rfl)⟩)
def C_ref06_Name : Con tb := .s 107 [true] (.c .s .n) (fun N a => s_ref06_Name N a.1) (R := Bool) (.p .b) (fun _ => ⟨rfl, (by kernel_rfl)⟩)
def q_ref06_Name_0 : LQ tb (((List UInt8)) × (Int)) := (LQ.m [] [0, 3] (.c 0 .s (.c 3 (.i .i64) .n)) .n .n).re (fun a => (a.1.1, a.1.2.1)) (fun x => ((x.1, x.2, ()), (), ())) (fun _ => rfl)
def f_ref06_Name_0 (N : Nat) (c : (List UInt8)) (next : Int → Option Bool) (v : Int) : Option Bool := s_ref06_Name_1 N c (fun u0 => next u0) v
abbrev r_ref06_Name_0 (N : Nat) : ((List UInt8)) × (Int) → Option Bool := fun a => loopV (f_ref06_Name_0 N a.1) N a.2
def C_ref04_Check : Con tb := .s 108 [true] (.c (.el tb_ok 1) .n) (fun N a => s_ref04_Check N a.1) (R := Int) (.p (.i .i64)) (fun _ => ⟨rfl, (by kernel_rfl)⟩)
def C_ref11_needs : Con tb := .s 72 [true] (.c (.el tb_ok 3) .n) (fun N a => s_ref11_needs N a.1) (R := Int) (.p (.i .i64)) (fun _ => ⟨rfl, (by kernel_rfl)⟩)
def C_ref11_Kids : Con tb := .s 73 [true] (.c (.i .u8) .n) (fun N a => s_ref11_Kids N a.1) (R := Int) (.p (.i .i64)) (fun _ => ⟨rfl, (by kernel_rfl)⟩)
def C_ref11_kid : Con tb := .s 74 [true, true] (.c (.i .u8) (.c (.i .i64) .n)) (fun N a => s_ref11_kid N a.1 a.2.1) (R := Int) (.p (.i .i64)) (fun _ => ⟨rfl, (by kernel_rfl)⟩)
def C_ref11_tree : Con tb := .s 47 [true, true, true, true] (.c (.r 3) (.c (.i .i64) (.c (.i .i64) (.c (.i .i64) .n)))) (fun N a => s_ref11_tree N a.1 a.2.1 a.2.2.1 a.2.2.2.1) (R := Int × Int) (.p (.tu (.c (.i .i64) (.o (.i .i64))))) (fun _ => ⟨rfl, (by kernel_rfl)⟩)
def q_ref11_tree_0 : LQ tb (((List pred_Node) × Int × Int × Int × (List UInt8) × (List UInt8) × Int × Int × Int × (List UInt8)) × (Int × Int)) := (LQ.m [] [0, 1, 3, 10, 12] (.c 0 (.r 3) (.c 1 (.i .i64) (.c 3 (.i .i64) (.c 10 (.ptr 0 0) (.c 12 (.i .i64) .n))))) (.c (.c (.i .u8) (.c (.i .u8) (.c .s (.c .s (.c (.i .u8) (.c (.i .i64) (.c (.i .u64) (.c .s .n)))))))) .n) .n).re (fun a => ((a.1.1, a.1.2.2.1, a.2.1.1.1, a.2.1.1.2.1, a.2.1.1.2.2.1, a.2.1.1.2.2.2.1, a.2.1.1.2.2.2.2.1, a.2.1.1.2.2.2.2.2.1, a.2.1.1.2.2.2.2.2.2.1, a.2.1.1.2.2.2.2.2.2.2.1), (a.1.2.1, a.1.2.2.2.2.1))) (fun x => ((x.1.1, x.2.1, x.1.2.1, (), x.2.2, ()), ((x.1.2.2.1, x.1.2.2.2.1, x.1.2.2.2.2.1, x.1.2.2.2.2.2.1, x.1.2.2.2.2.2.2.1, x.1.2.2.2.2.2.2.2.1, x.1.2.2.2.2.2.2.2.2.1, x.1.2.2.2.2.2.2.2.2.2, ()), ()), ())) (fun _ => rfl)
def f_ref11_tree_0 (N : Nat) (c : (List pred_Node) × Int × Int × Int × (List UInt8) × (List UInt8) × Int × Int × Int × (List UInt8)) (next : (Int × Int) → Option (Int × Int)) (v : Int × Int) : Option (Int × Int) := s_ref11_tree_1 N (SS_ref11_tree N) c.1 c.2.1 c.2.2.1 (fun u0 u1 => next (u0, u1)) v.1 v.2
abbrev r_ref11_tree_0 (N : Nat) : ((List pred_Node) × Int × Int × Int × (List UInt8) × (List UInt8) × Int × Int × Int × (List UInt8)) × (Int × Int) → Option (Int × Int) := fun a => loopV (f_ref11_tree_0 N a.1) N a.2
def C_ref11_Check : Con tb := .s 30 [true] (.c (.r 3) .n) (fun N a => s_ref11_Check N a.1) (R := Int) (.p (.i .i64)) (fun _ => ⟨rfl, (by kernel_rfl)⟩)
def C_ref12_Parse : Con tb := .p 11 [true, true, true] (.c (.r 0) (.c (.i .i64) (.c (.i .i64) .n))) (fun N a => s_ref12_Parse N a.1 a.2.1 a.2.2.1) (R := List pred_Node × Int × fault_Fault) (.p (.tu (.c (.r 3) (.c (.i .i64) (.o (.el tb_ok 5)))))) (fun _ => rfl)
def C_law11_Back : Con tb := .p 13 [true] (.c (.r 3) .n) (fun N a => s_law11_Back N a.1) (R := List pred_Node) (.p (.r 3)) (fun _ => rfl)
def q_law11_Back_0 : LQ tb (((List pred_Node)) × (Int × (List pred_Node))) := (LQ.m [(3, none, 3)] [0, 3, 4] (.c 0 (.r 3) (.c 3 (.own 0) (.c 4 (.i .i64) .n))) .n (.l 3 .n)).re (fun a => (a.1.1, (a.1.2.2.1, a.2.2.1))) (fun x => ((x.1, (), x.2.1, ()), (), x.2.2, ())) (fun _ => rfl)
def f_law11_Back_0 (N : Nat) (c : (List pred_Node)) (next : (Int × (List pred_Node)) → Option (List pred_Node)) (v : Int × (List pred_Node)) : Option (List pred_Node) := s_law11_Back_1 N c (fun u0 u1 => next (u0, u1)) v.1 v.2
abbrev r_law11_Back_0 (N : Nat) : ((List pred_Node)) × (Int × (List pred_Node)) → Option (List pred_Node) := fun a => loopV (f_law11_Back_0 N a.1) N a.2
def C_ref11_Same : Con tb := .s 12 [true, true] (.c (.r 3) (.c (.r 3) .n)) (fun N a => s_ref11_Same N a.1 a.2.1) (R := Bool) (.p .b) (fun _ => ⟨rfl, (by kernel_rfl)⟩)
def q_ref11_Same_0 : LQ tb (((List pred_Node) × (List pred_Node)) × (Int)) := (LQ.m [] [0, 1, 5] (.c 0 (.r 3) (.c 1 (.r 3) (.c 5 (.i .i64) .n))) .n .n).re (fun a => ((a.1.1, a.1.2.1), a.1.2.2.1)) (fun x => ((x.1.1, x.1.2, x.2, ()), (), ())) (fun _ => rfl)
def f_ref11_Same_0 (N : Nat) (c : (List pred_Node) × (List pred_Node)) (next : Int → Option Bool) (v : Int) : Option Bool := s_ref11_Same_1 N c.1 c.2 (fun u0 => next u0) v
abbrev r_ref11_Same_0 (N : Nat) : ((List pred_Node) × (List pred_Node)) × (Int) → Option Bool := fun a => loopV (f_ref11_Same_0 N a.1) N a.2
def C_law09_Told_n : Con tb := .s 14 [false] (.c .ni .n) (fun N a => s_law09_Told_n N) (R := fault_Fault) (.p (.el tb_ok 5)) (fun _ => ⟨rfl, (by kernel_rfl)⟩)
def C_law09_Told_f : Con tb := .s 14 [false] (.c (.ifc 87 (.dp (.c (.i .i64) (.c (.i .i64) .n)))) .n) (fun N a => s_law09_Told_f N a.1.1 a.1.2.1) (R := fault_Fault) (.p (.el tb_ok 5)) (fun _ => ⟨rfl, (by kernel_rfl)⟩)
def C_law04_Small : Con tb := .s 24 [true] (.c (.el tb_ok 1) .n) (fun N a => s_law04_Small N a.1) (R := Int) (.p (.i .i64)) (fun _ => ⟨rfl, (by kernel_rfl)⟩)
def C_law10_Over : Con tb := .s 7 [true, true] (.c (.r 0) (.c (.i .i64) .n)) (fun N a => s_law10_Over N a.1 a.2.1) (R := Int) (.p (.i .i64)) (fun _ => ⟨rfl, (by kernel_rfl)⟩)
def q_law10_Over_0 : LQ tb (((List lex_Token)) × (Int)) := (LQ.m [] [0, 5] (.c 0 (.r 0) (.c 5 (.i .i64) .n)) .n .n).re (fun a => (a.1.1, a.1.2.1)) (fun x => ((x.1, x.2, ()), (), ())) (fun _ => rfl)
def f_law10_Over_0 (N : Nat) (c : (List lex_Token)) (next : Int → Option Int) (v : Int) : Option Int := s_law10_Over_1 N c (fun u0 => next u0) v
abbrev r_law10_Over_0 (N : Nat) : ((List lex_Token)) × (Int) → Option Int := fun a => loopV (f_law10_Over_0 N a.1) N a.2
def C_law10_Own : Con tb := .p 10 [true] (.c (.r 0) .n) (fun N a => s_law10_Own N a.1) (R := List lex_Token) (.p (.r 0)) (fun _ => rfl)
def q_law10_Own_0 : LQ tb (((List lex_Token)) × (Int × (List lex_Token))) := (LQ.m [(3, none, 0)] [0, 3, 4] (.c 0 (.r 0) (.c 3 (.own 0) (.c 4 (.i .i64) .n))) .n (.l 0 .n)).re (fun a => (a.1.1, (a.1.2.2.1, a.2.2.1))) (fun x => ((x.1, (), x.2.1, ()), (), x.2.2, ())) (fun _ => rfl)
def f_law10_Own_0 (N : Nat) (c : (List lex_Token)) (next : (Int × (List lex_Token)) → Option (List lex_Token)) (v : Int × (List lex_Token)) : Option (List lex_Token) := s_law10_Own_1 N c (fun u0 u1 => next (u0, u1)) v.1 v.2
abbrev r_law10_Own_0 (N : Nat) : ((List lex_Token)) × (Int × (List lex_Token)) → Option (List lex_Token) := fun a => loopV (f_law10_Own_0 N a.1) N a.2
def C_law12_PredtextParses : Con tb := .s 3 [true, true, true] (.c (.r 0) (.c (.i .i64) (.c (.i .i64) .n))) (fun N a => s_law12_PredtextParses N a.1 a.2.1 a.2.2.1) (R := Bool) (.p .b) (fun _ => ⟨rfl, (by kernel_rfl)⟩)
def C_law11_Over : Con tb := .s 17 [true] (.c (.r 3) .n) (fun N a => s_law11_Over N a.1) (R := Int) (.p (.i .i64)) (fun _ => ⟨rfl, (by kernel_rfl)⟩)
def q_law11_Over_0 : LQ tb (((List pred_Node)) × (Int)) := (LQ.m [] [0, 3] (.c 0 (.r 3) (.c 3 (.i .i64) .n)) .n .n).re (fun a => (a.1.1, a.1.2.1)) (fun x => ((x.1, x.2, ()), (), ())) (fun _ => rfl)
def f_law11_Over_0 (N : Nat) (c : (List pred_Node)) (next : Int → Option Int) (v : Int) : Option Int := s_law11_Over_1 N c (fun u0 => next u0) v
abbrev r_law11_Over_0 (N : Nat) : ((List pred_Node)) × (Int) → Option Int := fun a => loopV (f_law11_Over_0 N a.1) N a.2
def C_slices_Equal_pred_Node : Con tb := .s 37 [true, true] (.c (.r 3) (.c (.r 3) .n)) (fun N a => s_slices_Equal_pred_Node N a.1 a.2.1) (R := Bool) (.p .b) (fun _ => ⟨rfl, (by kernel_rfl)⟩)
def q_slices_Equal_pred_Node_0 : LQ tb (((List pred_Node) × (List pred_Node) × Int) × (Int)) := (LQ.m [] [0, 1, 12, 13] (.c 0 (.r 3) (.c 1 (.r 3) (.c 12 (.i .i64) (.c 13 (.i .i64) .n)))) .n .n).re (fun a => ((a.1.1, a.1.2.1, a.1.2.2.1), a.1.2.2.2.1)) (fun x => ((x.1.1, x.1.2.1, x.1.2.2, x.2, ()), (), ())) (fun _ => rfl)
def f_slices_Equal_pred_Node_0 (N : Nat) (c : (List pred_Node) × (List pred_Node) × Int) (next : Int → Option Bool) (v : Int) : Option Bool := s_slices_Equal_pred_Node_1 N c.1 c.2.1 c.2.2 (fun u0 => next u0) v
abbrev r_slices_Equal_pred_Node_0 (N : Nat) : ((List pred_Node) × (List pred_Node) × Int) × (Int) → Option Bool := fun a => loopV (f_slices_Equal_pred_Node_0 N a.1) N a.2
def C_pred_Same : Con tb := .s 21 [true, true] (.c (.r 3) (.c (.r 3) .n)) (fun N a => s_pred_Same N a.1 a.2.1) (R := Bool) (.p .b) (fun _ => ⟨rfl, (by kernel_rfl)⟩)
def C_law11_Own : Con tb := .p 22 [true] (.c (.r 3) .n) (fun N a => s_law11_Own N a.1) (R := List pred_Node) (.p (.r 3)) (fun _ => rfl)
def q_law11_Own_0 : LQ tb (((List pred_Node)) × (Int × (List pred_Node))) := (LQ.m [(3, none, 3)] [0, 3, 4] (.c 0 (.r 3) (.c 3 (.own 0) (.c 4 (.i .i64) .n))) .n (.l 3 .n)).re (fun a => (a.1.1, (a.1.2.2.1, a.2.2.1))) (fun x => ((x.1, (), x.2.1, ()), (), x.2.2, ())) (fun _ => rfl)
def f_law11_Own_0 (N : Nat) (c : (List pred_Node)) (next : (Int × (List pred_Node)) → Option (List pred_Node)) (v : Int × (List pred_Node)) : Option (List pred_Node) := s_law11_Own_1 N c (fun u0 u1 => next (u0, u1)) v.1 v.2
abbrev r_law11_Own_0 (N : Nat) : ((List pred_Node)) × (Int × (List pred_Node)) → Option (List pred_Node) := fun a => loopV (f_law11_Own_0 N a.1) N a.2
def C_law12_PredtextBack : Con tb := .s 5 [true, true] (.c (.r 3) (.c .s .n)) (fun N a => s_law12_PredtextBack N a.1 a.2.1) (R := Bool) (.p .b) (fun _ => ⟨rfl, (by kernel_rfl)⟩)
def C_law12_PredtextBrackets : Con tb := .s 6 [true, true] (.c .s (.c (.i .u8) .n)) (fun N a => s_law12_PredtextBrackets N a.1 a.2.1) (R := Bool) (.p .b) (fun _ => ⟨rfl, (by kernel_rfl)⟩)
def q_law12_PredtextBrackets_0 : LQ tb ((Int × (List pred_Node)) × ((List UInt8) × Int)) := (LQ.m [] [1, 5, 7, 8] (.c 1 (.i .u8) (.c 5 (.r 3) (.c 7 .s (.c 8 (.i .i64) .n)))) .n .n).re (fun a => ((a.1.1, a.1.2.1), (a.1.2.2.1, a.1.2.2.2.1))) (fun x => ((x.1.1, x.1.2, x.2.1, x.2.2, ()), (), ())) (fun _ => rfl)
def f_law12_PredtextBrackets_0 (N : Nat) (c : Int × (List pred_Node)) (next : ((List UInt8) × Int) → Option Bool) (v : (List UInt8) × Int) : Option Bool := s_law12_PredtextBrackets_1 N c.1 c.2 (fun u0 u1 => next (u0, u1)) v.1 v.2
abbrev r_law12_PredtextBrackets_0 (N : Nat) : (Int × (List pred_Node)) × ((List UInt8) × Int) → Option Bool := fun a => loopV (f_law12_PredtextBrackets_0 N a.1) N a.2
end
end Go.Proofs.YtfmibkkigkgecaaGreatDoor.V
namespace Go.Proofs.YtfmibkkigkgecaaGreatDoor.V
open Go Go.RowKit Go.Extern.Stop Go.Stop Go.Extern Go.Proofs.Tryz
set_option maxHeartbeats 4000000
set_option maxRecDepth 1000000
theorem new_nil (p : Int) (w : World) : Calls Tryz.prog 25 #[.int .i64 0, .int .i64 p] w fun e w' => e = .returned .nilIface ∧ w' = w := by
  go_enter Tryz.func25, Tryz.ntmps25
  go_wp2
  go_ret
  exact ⟨rfl, rfl⟩
theorem new_some (n p : Int) (h : n ≠ 0) (w : World) : Calls Tryz.prog 25 #[.int .i64 n, .int .i64 p] w fun e w' => e = .returned (.iface 87 (.pointer (some ⟨w.heap.size, 0, none⟩))) ∧ w' = w.alloc (.cells #[.int .i64 n, .int .i64 p] 90) := by
  go_enter Tryz.func25, Tryz.ntmps25
  go_wp2
  go_ret
  exact ⟨rfl, rfl⟩
theorem c_fault_New (N : Nat) : C_fault_New.Ok prog N := by
  refine ⟨⟨Tryz.f25, Tryz.func25, by kernel_rfl, by kernel_rfl⟩, fun a r h => ?_⟩
  obtain ⟨n, p, ⟨⟩⟩ := a
  have h : s_fault_New N n p = some r := h
  intro M S w vs hh _ hsz hrep
  obtain ⟨v, u, rfl⟩ : ∃ v u, vs = #[v, u] := by
    match vs, hsz with
    | ⟨[v, u]⟩, _ => exact ⟨v, u, rfl⟩
  have h0 : v = .int .i64 n := VRep.v_eq (hrep 0 (Nat.zero_lt_succ 1))
  have h1 : u = .int .i64 p := VRep.v_eq (hrep 1 (Nat.lt_succ_self 1))
  subst h0; subst h1
  by_cases hn : n = 0
  · subst hn
    refine (new_nil p w).mono ?_
    rintro e w' ⟨rfl, rfl⟩
    have e1 : s_fault_New N 0 p = some (.inl ()) := rfl
    rw [e1] at h; obtain rfl := Option.some.inj h
    exact ⟨M, S, .data (.v _), hh, .refl hh⟩
  · refine (new_some n p hn w).mono ?_
    rintro e w' ⟨rfl, rfl⟩
    have e1 : s_fault_New N n p = some (.inr (n, p)) := by unfold s_fault_New; rw [show (n == 0) = false by simpa using hn]; rfl
    rw [e1] at h; obtain rfl := Option.some.inj h
    have hg := Grew.alloc w (.cells #[.int .i64 n, .int .i64 p] 90)
    obtain ⟨h3, h4⟩ := hh.addData hg (g := w.heap.size) (Nat.le_refl _) (by simp)
    refine ⟨M, _, .data (.ifc _ _ _ (.dptr w.heap.size 0 _ _ _ (0, 0) (.inr rfl) (push_new _ _) (Nat.le_refl 2) (fun j hj => ?_) fun j hj => ?_)), h3, h4⟩
    · match j, hj with
      | 0, _ => rfl
      | 1, _ => rfl
    · match j, hj with
      | 0, _ => exact .v _
      | 1, _ => exact .v _
end Go.Proofs.YtfmibkkigkgecaaGreatDoor.V
set_option linter.unusedVariables false
set_option linter.unusedSimpArgs false
namespace Go.Proofs.YtfmibkkigkgecaaGreatDoor.V
open Go Go.RowKit Go.Lib Go.Proofs.Tryz
set_option maxHeartbeats 4000000
set_option maxRecDepth 1000000
theorem grow_none (a : Option Addr) (w : World) : Calls Tryz.prog 102 #[.slice a 0 0, .int .i64 0] w fun e w' => e = .returned (.slice a 0 0) ∧ w' = w := by
  go_enter Tryz.func102, Tryz.ntmps102
  go_wp2
  go_ret
  exact ⟨rfl, rfl⟩
theorem grow_some (i0 : TypeInfo) (z : Value) (hu : Tryz.prog.underlying 25 = some (.slice 64)) (hi0 : Tryz.prog.info? 64 = some i0) (hz0 : i0.zero = some z) (hs0 : 0 < i0.size) (n : Nat) (h0 : 0 < n) (hbig : n * i0.bytes ≤ 140737488355328) (h63 : n ≤ 4611686018427387904) (a : Option Addr) (w : World) :
    Calls Tryz.prog 102 #[.slice a 0 0, .int .i64 n] w fun e w' => e = .returned (.slice (some ⟨w.heap.size, 0, none⟩) 0 (grownCap w n 0 64)) ∧
      w' = w.drew.alloc (.cells (#[] ++ Builtin.zeroCells z.cells n ++ Builtin.zeroCells z.cells (grownCap w n 0 64 - n)) 64) := by
  have h1 : ¬ ((n : Int) < 0) := by omega
  have h4 : (n : Int) > 0 := by omega
  have z25 : ∀ w, (Go.sizeOf 64).run Tryz.prog w = .ok i0.size w := fun w => by simp [Go.sizeOf, typeInfo, hi0]
  have hrz : ∀ ty, (Builtin.append_ #[25, 3] ty #[.slice a 0 0, .int .i64 n]).run Tryz.prog w =
      .ok (.slice (some ⟨w.heap.size, 0, none⟩) n (grownCap w n 0 64)) (w.drew.alloc (.cells (#[] ++ Builtin.zeroCells z.cells n ++ Builtin.zeroCells z.cells (grownCap w n 0 64 - n)) 64)) := fun ty => by
    have hold : (Builtin.firstCells i0.size 0 (.slice a 0 0)).run Tryz.prog w.drew = .ok ([] : List Value).toArray w.drew := by
      cases a with
      | none => exact run_firstCells_none w.drew i0.size 0 0 0
      | some a => exact run_firstCells_some w.drew i0.size 0 a 0 0 [] (by simp) (fun j v hj => by cases hj)
    have h := Lib.run_append_grow_zeros w 25 3 ty 64 i0 z .i64 .i64 hu Tryz.underlying3 hi0 hz0 a 0 0 [] hold n h0 hs0 (by omega) (by omega) (by omega) (by
      rw [Nat.zero_add]; exact growslice_fits (by omega) (by omega))
    rw [Nat.zero_add] at h
    exact h
  have hGn : n ≤ grownCap w n 0 64 := grownCap_ge w _ _ _
  obtain ⟨G, hG⟩ : ∃ G, G = grownCap w n 0 64 := ⟨_, rfl⟩
  rw [← hG] at hrz hGn ⊢
  have hG63 : G ≤ 9223372036854775807 := by
    have := grownCap_le_maxLen w n 0 64 (by unfold maxLen; omega)
    rw [← hG] at this
    unfold maxLen at this
    omega
  clear hG
  go_enter Tryz.func102, Tryz.ntmps102
  cases a with
  | none =>
    go_wp2_with (at_builtin; refine Lib.wpList_append_run _ rfl _ _ _ _ rfl _ _ rfl rfl _ _ (hrz _) ?_)
    all_goals (go_ret; exact ⟨rfl, rfl⟩)
  | some a =>
    obtain ⟨ab, ao, asp⟩ := a
    go_wp2_with (at_builtin; refine Lib.wpList_append_run _ rfl _ _ _ _ rfl _ _ rfl rfl _ _ (hrz _) ?_)
    all_goals (go_ret; exact ⟨rfl, rfl⟩)
theorem c_slices_Grow_pred_Node_own (N : Nat) : C_slices_Grow_pred_Node_own.Ok prog N := by
  refine ⟨⟨Tryz.f102, Tryz.func102, by kernel_rfl, by kernel_rfl⟩, fun a r h => ?_⟩
  obtain ⟨⟨⟨⟩, n, ⟨⟩⟩, ⟨⟩, ⟨⟩⟩ := a
  have h : s_slices_Grow_pred_Node_own N n = some r := h
  unfold s_slices_Grow_pred_Node_own at h
  obtain ⟨hn0, h⟩ := gd_some h
  obtain ⟨hnb, h⟩ := gd_some h
  have hn0 := leB_iff.1 hn0
  have hnb := leB_iff.1 hnb
  obtain rfl := Option.some.inj h
  intro M S w vs hh _ hsz hrep
  obtain ⟨v, u, rfl⟩ : ∃ v u, vs = #[v, u] := by
    match vs, hsz with
    | ⟨[v, u]⟩, _ => exact ⟨v, u, rfl⟩
  obtain ⟨ad, rfl⟩ : ∃ ad, v = .slice ad 0 0 := by
    have q : VRep M S w v .emp := hrep 0 (Nat.zero_lt_succ 1)
    cases q with
    | data q => cases q; exact ⟨_, rfl⟩
  have e1 : u = .int .i64 n := VRep.v_eq (hrep 1 (Nat.lt_succ_self 1))
  subst e1
  obtain ⟨m, rfl⟩ : ∃ m : Nat, n = m := ⟨n.toNat, by omega⟩
  have fin : ∀ (g : Value) (w' : World), Grew w w' → LiveRep S w' g 8 [] → (∀ b, Value.blk g = some b → w.heap.size ≤ b) → (∃ a n c, g = .slice a n c) →
      ∃ M' S', EndRep M' S' w' (.returned g) (.ret (.own 0)) ∧ RelH M' S' ⟨[], [.live 8 []]⟩ w' ∧ Frm M S AH.nil w M' S' ⟨[], [.live 8 []]⟩ w' := by
    intro g w' hg hl hb hs
    obtain ⟨h1, h2⟩ := hh.addTok hg hl hb
    exact ⟨_, S, rep_newTok hh.nt hs, h1, h2⟩
  by_cases hm : m = 0
  · subst hm
    refine (grow_none ad w).mono ?_
    rintro e w' ⟨rfl, rfl⟩
    exact fin _ _ (.refl _) (.inl ⟨⟨_, rfl⟩, rfl⟩) (fun b hb => by cases ad <;> cases hb) ⟨_, _, _, rfl⟩
  · obtain ⟨ks, x, hx⟩ : ∃ ks x, cMk prog 25 ks = some (x, 8, 80) := ⟨[0, 0, 0, 0, 0, 0, 0, 0], eA3 (pred_Node.mk 0 0 [] [] (value_Value.mk 0 0 0 [])), by kernel_rfl⟩
    obtain ⟨e, i, z, hu, hi, hz, q1, q2, q3, q4, hx⟩ := cMk_some hx
    simp only [Prod.mk.injEq] at hx
    obtain ⟨-, hs8, hb80⟩ := hx
    have he : e = 64 := by
      have : prog.underlying 25 = some (.slice 64) := by kernel_rfl
      rw [this] at hu; cases hu; rfl
    subst he
    refine (grow_some i z hu hi hz q3 m (by omega) (by rw [← hb80]; omega) (by omega) ad w).mono ?_
    rintro e w' ⟨rfl, rfl⟩
    have hge := grownCap_ge w m 0 64
    have hle := grownCap_le_maxLen w m 0 64 (by unfold maxLen; omega)
    have hG := Grew.drew_alloc w (.cells (#[] ++ Builtin.zeroCells z.cells m ++ Builtin.zeroCells z.cells (grownCap w m 0 64 - m)) 64)
    generalize grownCap w m 0 64 = G at *
    obtain ⟨q, rfl⟩ : ∃ q, G = q + 1 := ⟨G - 1, by omega⟩
    refine fin _ _ hG (.inr ⟨w.heap.size, q, _, 64, rfl, fun h => by have := hh.sits _ h; omega, push_new _ _, ⟨Nat.zero_le _, hle, ?_, fun i hi => absurd hi (Nat.not_lt_zero _), fun i hi => absurd hi (Nat.not_lt_zero _), fun i hi => absurd hi (Nat.not_lt_zero _)⟩⟩) (fun b hb => by cases hb; exact Nat.le_refl _) ⟨_, _, _, rfl⟩
    rw [Array.size_append, Array.size_append, size_zeroCells, size_zeroCells, q2, ← hs8, Array.size_empty]
    omega
end Go.Proofs.YtfmibkkigkgecaaGreatDoor.V
set_option linter.unusedVariables false
set_option linter.unusedSimpArgs false
namespace Go.Proofs.YtfmibkkigkgecaaGreatDoor.V
open Go Go.RowKit Go.Proofs.Tryz
set_option maxHeartbeats 4000000
set_option maxRecDepth 1000000
theorem agg_vals {M : Maps} {S : Nat → Prop} {w : World} {v : Value} {l : List Value} (h : VRep M S w v (.agg (l.map .v))) : v = .agg l.toArray := by
  have key : ∀ vs : Array Value, vs.size = (l.map AV.v).length → (∀ i, i < (l.map AV.v).length → VRep M S w (vs.getD i undef) ((l.map AV.v).getD i .any)) → vs = l.toArray := fun vs hn hall => by
    rw [List.length_map] at hn
    refine Array.ext (by simpa using hn) fun i h1 h2 => ?_
    have hi : i < l.length := by omega
    have q := hall i (by simpa using hi)
    rw [show (l.map AV.v).getD i .any = .v l[i] by simp [List.getD, hi]] at q
    have := q.v_eq
    simpa [Array.getD, h1] using this
  cases h with
  | data h => cases h with | agg vs _ hn hall => exact congrArg _ (key vs hn fun i hi => .data (hall i hi))
  | agg vs _ hn hall => exact congrArg _ (key vs hn hall)
theorem grew_two (w : World) (a b : Obj) : Grew w ((w.alloc a).alloc b) := ⟨rfl, rfl, rfl, by simp; omega, fun g h => (push_old _ _ g (by simp; omega)).trans (push_old _ _ g h)⟩
theorem grew_two_d (w : World) (a b : Obj) : Grew w ((w.alloc a).alloc b).drew := ⟨rfl, rfl, rfl, by simp; omega, fun g h => (push_old _ _ g (by simp; omega)).trans (push_old _ _ g h)⟩
theorem bs_nil (l : List UInt8) : (bs l).toList = [] ↔ l = [] := by simp [bs]
theorem more_4 (o vk vn vb : Int) (va na vt : List UInt8) (w : World) :
    Calls Tryz.prog 54 #[.agg #[.int .u8 4, .int .u8 o, .string (bs va), .string (bs na), .int .u8 vk, .int .i64 vn, .int .u64 vb, .string (bs vt)]] w fun e w' => (∃ b, e = .returned (.bool b) ∧ (b = false ↔ (va = [] ∧ na = [] ∧ 0 = vk ∧ 0 = vn ∧ 0 = vb ∧ vt = []))) ∧ Grew w w' := by
  rw [← bs_nil vt, ← bs_nil va, ← bs_nil na]
  go_enter Tryz.func54, Tryz.ntmps54
  go_wp2
  all_goals
    go_ret
    refine ⟨⟨_, rfl, ?_⟩, grew_two _ _ _⟩
    simp_all
theorem more_7 (o vk vn vb : Int) (va na vt : List UInt8) (w : World) :
    Calls Tryz.prog 54 #[.agg #[.int .u8 7, .int .u8 o, .string (bs va), .string (bs na), .int .u8 vk, .int .i64 vn, .int .u64 vb, .string (bs vt)]] w fun e w' => (∃ b, e = .returned (.bool b) ∧ (b = false ↔ (0 = o ∧ va = [] ∧ 0 = vk ∧ 0 = vn ∧ 0 = vb ∧ vt = []))) ∧ Grew w w' := by
  rw [← bs_nil vt, ← bs_nil va]
  go_enter Tryz.func54, Tryz.ntmps54
  go_wp2
  all_goals
    go_ret
    refine ⟨⟨_, rfl, ?_⟩, grew_two _ _ _⟩
    simp_all
theorem more_8 (o vk vn vb : Int) (va na vt : List UInt8) (w : World) :
    Calls Tryz.prog 54 #[.agg #[.int .u8 8, .int .u8 o, .string (bs va), .string (bs na), .int .u8 vk, .int .i64 vn, .int .u64 vb, .string (bs vt)]] w fun e w' => (∃ b, e = .returned (.bool b) ∧ (b = false ↔ (0 = o ∧ 0 = vk ∧ 0 = vn ∧ 0 = vb ∧ vt = []))) ∧ Grew w w' := by
  rw [← bs_nil vt]
  go_enter Tryz.func54, Tryz.ntmps54
  go_wp2
  go_region_held3 (fun w' => w'.cell? ⟨w.heap.size, 2, none⟩ = some (.string (bs va)) ∧ w'.cell? ⟨w.heap.size, 3, none⟩ = some (.string (bs na))) (go_keep) (fail)
  go_wp2
  all_goals
    go_ret
    refine ⟨⟨_, rfl, ?_⟩, grew_two_d _ _ _⟩
    simp_all
theorem more_9 (o vk vn vb : Int) (va na vt : List UInt8) (w : World) :
    Calls Tryz.prog 54 #[.agg #[.int .u8 9, .int .u8 o, .string (bs va), .string (bs na), .int .u8 vk, .int .i64 vn, .int .u64 vb, .string (bs vt)]] w fun e w' => (∃ b, e = .returned (.bool b) ∧ (b = false ↔ (0 = o ∧ va = [] ∧ na = []))) ∧ Grew w w' := by
  rw [← bs_nil va, ← bs_nil na]
  go_enter Tryz.func54, Tryz.ntmps54
  go_wp2
  all_goals
    go_ret
    refine ⟨⟨_, rfl, ?_⟩, grew_two _ _ _⟩
    simp_all
theorem more_k (k : Int) (h4 : ¬ k = 4) (h7 : ¬ k = 7) (h8 : ¬ k = 8) (h9 : ¬ k = 9) (o vk vn vb : Int) (va na vt : List UInt8) (w : World) :
    Calls Tryz.prog 54 #[.agg #[.int .u8 k, .int .u8 o, .string (bs va), .string (bs na), .int .u8 vk, .int .i64 vn, .int .u64 vb, .string (bs vt)]] w fun e w' => (∃ b, e = .returned (.bool b) ∧ (b = false ↔ (0 = o ∧ va = [] ∧ na = [] ∧ 0 = vk ∧ 0 = vn ∧ 0 = vb ∧ vt = []))) ∧ Grew w w' := by
  rw [← bs_nil vt, ← bs_nil va, ← bs_nil na]
  go_enter Tryz.func54, Tryz.ntmps54
  go_wp2
  all_goals
    go_ret
    refine ⟨⟨_, rfl, ?_⟩, grew_two _ _ _⟩
    simp_all
theorem bf_eq {a b : Bool} {Q : Prop} (h1 : a = false ↔ Q) (h2 : b = false ↔ Q) : b = a := by cases a <;> cases b <;> simp_all
theorem c_pred_Node_more (N : Nat) : C_pred_Node_more.Ok prog N := by
  refine ⟨⟨Tryz.f54, Tryz.func54, by kernel_rfl, by kernel_rfl⟩, fun a r h => ?_⟩
  obtain ⟨n, ⟨⟩⟩ := a
  have h : some (moreB n) = some r := h
  obtain rfl := Option.some.inj h
  intro M S w vs hh _ hsz hrep
  obtain ⟨v, rfl⟩ : ∃ v, vs = #[v] := by
    match vs, hsz with
    | ⟨[v]⟩, _ => exact ⟨v, rfl⟩
  obtain ⟨k, o, va, na, vk, vn, vb, vt⟩ := n
  have h0 : VRep M S w v (.agg ([.int .u8 k, .int .u8 o, .string (bs va), .string (bs na), .int .u8 vk, .int .i64 vn, .int .u64 vb, .string (bs vt)].map .v)) := hrep 0 (Nat.zero_lt_one)
  obtain rfl := agg_vals h0
  have fin : ∀ {k : Int} {Q : Prop}, (moreB ⟨k, o, va, na, ⟨vk, vn, vb, vt⟩⟩ = false ↔ Q) → ∀ e w', ((∃ b, e = .returned (.bool b) ∧ (b = false ↔ Q)) ∧ Grew w w') →
      ∃ M' S', EndRep M' S' w' e (.ret (.v (.bool (moreB ⟨k, o, va, na, ⟨vk, vn, vb, vt⟩⟩)))) ∧ RelH M' S' AH.nil w' ∧ Frm M S AH.nil w M' S' AH.nil w' := by
    rintro k Q hm e w' ⟨⟨b, rfl, hb⟩, hg⟩
    obtain rfl := bf_eq hm hb
    exact ⟨M, S, .data (.v _), hh.grew hg, .grew hh hg⟩
  by_cases h4 : k = 4
  · subst h4
    exact (more_4 o vk vn vb va na vt w).mono (fin (by simp [moreB, moreZ, eq_comm (a := (0 : Int)), and_assoc]))
  by_cases h7 : k = 7
  · subst h7
    exact (more_7 o vk vn vb va na vt w).mono (fin (by simp [moreB, moreZ, eq_comm (a := (0 : Int)), and_assoc]))
  by_cases h8 : k = 8
  · subst h8
    exact (more_8 o vk vn vb va na vt w).mono (fin (by simp [moreB, moreZ, eq_comm (a := (0 : Int)), and_assoc]))
  by_cases h9 : k = 9
  · subst h9
    exact (more_9 o vk vn vb va na vt w).mono (fin (by simp [moreB, moreZ, eq_comm (a := (0 : Int)), and_assoc]))
  have e4 : (k == 4) = false := by simpa using h4
  have e7 : (k == 7) = false := by simpa using h7
  have e8 : (k == 8) = false := by simpa using h8
  have e9 : (k == 9) = false := by simpa using h9
  exact (more_k k h4 h7 h8 h9 o vk vn vb va na vt w).mono (fin (by simp only [moreB, e4, e7, e8, e9, cond_false]; simp [moreZ, eq_comm (a := (0 : Int)), and_assoc]))
end Go.Proofs.YtfmibkkigkgecaaGreatDoor.V
namespace Go.Proofs.YtfmibkkigkgecaaGreatDoor.V
open Go Go.Shelf Go.RowKit Go.Proofs.Tryz
set_option maxHeartbeats 1000000
set_option maxRecDepth 1000000
def bren : Go.Shelf.Ren := ⟨fun | 166 => 133 | 167 => 132 | 169 => 134 | 240 => 141 | 276 => 145 | n => n, fun | 0 => 0 | 3 => 3 | 4 => 4 | 5 => 5 | 9 => 9 | 20 => 20 | 31 => 211 | 37 => 184 | 70 => 203 | 72 => 205 | 75 => 27 | 76 => 207 | 80 => 97 | 127 => 213 | 164 => 124 | n => n, fun n => n⟩
theorem lays166 : Go.Proofs.Lays.n166 Tryz.prog bren := {
  mixed := by kernel_rfl
  f166 := Tryz.func133.trans (congrArg some (by kernel_rfl))
  f240 := Tryz.func141.trans (congrArg some (by kernel_rfl))
  f276 := Tryz.func145.trans (congrArg some (by kernel_rfl))
  t0 := Tryz.underlying0
  a0 := Tryz.isAgg0
  z0 := Tryz.sizeOf0
  v0 := Tryz.zeroValue0
  t3 := Tryz.underlying3
  a3 := Tryz.isAgg3
  z3 := Tryz.sizeOf3
  v3 := Tryz.zeroValue3
  t4 := Tryz.underlying4
  a4 := Tryz.isAgg4
  z4 := Tryz.sizeOf4
  v4 := Tryz.zeroValue4
  t9 := Tryz.underlying9
  a9 := Tryz.isAgg9
  z9 := Tryz.sizeOf9
  v9 := Tryz.zeroValue9
  t20 := Tryz.underlying20
  a20 := Tryz.isAgg20
  z20 := Tryz.sizeOf20
  v20 := Tryz.zeroValue20
  t37 := Tryz.underlying184
  a37 := Tryz.isAgg184
  z37 := Tryz.sizeOf184
  v37 := Tryz.zeroValue184
  t70 := Tryz.underlying203
  a70 := Tryz.isAgg203
  z70 := Tryz.sizeOf203
  v70 := Tryz.zeroValue203
  t72 := Tryz.underlying205
  a72 := Tryz.isAgg205
  z72 := Tryz.sizeOf205
  v72 := Tryz.zeroValue205
  t75 := Tryz.underlying27
  a75 := Tryz.isAgg27
  z75 := Tryz.sizeOf27
  v75 := Tryz.zeroValue27
  t164 := Tryz.underlying124
  a164 := Tryz.isAgg124
  z164 := Tryz.sizeOf124
  v164 := Tryz.zeroValue124 }
theorem lays167 : Go.Proofs.Lays.n167 Tryz.prog bren := {
  mixed := by kernel_rfl
  f167 := Tryz.func132.trans (congrArg some (by kernel_rfl))
  f240 := Tryz.func141.trans (congrArg some (by kernel_rfl))
  f276 := Tryz.func145.trans (congrArg some (by kernel_rfl))
  t0 := Tryz.underlying0
  a0 := Tryz.isAgg0
  z0 := Tryz.sizeOf0
  v0 := Tryz.zeroValue0
  t4 := Tryz.underlying4
  a4 := Tryz.isAgg4
  z4 := Tryz.sizeOf4
  v4 := Tryz.zeroValue4
  t5 := Tryz.underlying5
  a5 := Tryz.isAgg5
  z5 := Tryz.sizeOf5
  v5 := Tryz.zeroValue5
  t9 := Tryz.underlying9
  a9 := Tryz.isAgg9
  z9 := Tryz.sizeOf9
  v9 := Tryz.zeroValue9
  t20 := Tryz.underlying20
  a20 := Tryz.isAgg20
  z20 := Tryz.sizeOf20
  v20 := Tryz.zeroValue20
  t37 := Tryz.underlying184
  a37 := Tryz.isAgg184
  z37 := Tryz.sizeOf184
  v37 := Tryz.zeroValue184
  t70 := Tryz.underlying203
  a70 := Tryz.isAgg203
  z70 := Tryz.sizeOf203
  v70 := Tryz.zeroValue203
  t72 := Tryz.underlying205
  a72 := Tryz.isAgg205
  z72 := Tryz.sizeOf205
  v72 := Tryz.zeroValue205
  t75 := Tryz.underlying27
  a75 := Tryz.isAgg27
  z75 := Tryz.sizeOf27
  v75 := Tryz.zeroValue27
  t164 := Tryz.underlying124
  a164 := Tryz.isAgg124
  z164 := Tryz.sizeOf124
  v164 := Tryz.zeroValue124 }
theorem lays169 : Go.Proofs.Lays.n169 Tryz.prog bren := {
  mixed := by kernel_rfl
  f169 := Tryz.func134.trans (congrArg some (by kernel_rfl))
  t0 := Tryz.underlying0
  a0 := Tryz.isAgg0
  z0 := Tryz.sizeOf0
  v0 := Tryz.zeroValue0
  t3 := Tryz.underlying3
  a3 := Tryz.isAgg3
  z3 := Tryz.sizeOf3
  v3 := Tryz.zeroValue3
  t9 := Tryz.underlying9
  a9 := Tryz.isAgg9
  z9 := Tryz.sizeOf9
  v9 := Tryz.zeroValue9
  t37 := Tryz.underlying184
  a37 := Tryz.isAgg184
  z37 := Tryz.sizeOf184
  v37 := Tryz.zeroValue184
  t70 := Tryz.underlying203
  a70 := Tryz.isAgg203
  z70 := Tryz.sizeOf203
  v70 := Tryz.zeroValue203
  t72 := Tryz.underlying205
  a72 := Tryz.isAgg205
  z72 := Tryz.sizeOf205
  v72 := Tryz.zeroValue205
  t127 := Tryz.underlying213
  a127 := Tryz.isAgg213
  z127 := Tryz.sizeOf213
  v127 := Tryz.zeroValue213 }
theorem bextra : Builder.Extra Tryz.prog bren := {
  sizeBuilder := by kernel_rfl
  liesBuilder := by kernel_rfl
  t5 := Tryz.underlying5
  a5 := Tryz.isAgg5
  z5 := Tryz.sizeOf5
  v5 := Tryz.zeroValue5
  infoByte := by kernel_rfl
  cellsByte := by kernel_rfl
  sizeByte := by kernel_rfl
  neB5 := by decide }
theorem set_rep2 {α : Type} (x z : α) (r : List α) : ∀ j, (List.replicate (j + 1) z ++ r).set j x = List.replicate j z ++ x :: r
  | 0 => rfl
  | j + 1 => by
    have := set_rep2 x z r j
    simp only [List.replicate_succ, List.cons_append, List.set_cons_succ] at this ⊢
    rw [this]
theorem w_add8 (q : Nat) : 48 + UInt8.ofNat (q % 10) = UInt8.ofNat (48 + q % 10) := by
  apply UInt8.toNat_inj.1
  simp [UInt8.toNat_add]
theorem whole_walk (n : Int) (h1 : -4611686018427387904 ≤ n) (h2 : n ≤ 4611686018427387904) (w : World) :
    Calls Tryz.prog 92 #[.int .i64 n] w fun e w' => e = .returned (.string (bs (whS n))) ∧ Below w.heap.size w w' := by
  have hm : max n (-n) = (n.natAbs : Int) := by omega
  have hm2 : n.natAbs < 10 ^ 19 := by omega
  obtain ⟨m, hmm⟩ : ∃ m, n.natAbs = m := ⟨_, rfl⟩
  rw [hmm] at hm hm2
  go_enter Tryz.func92, Tryz.ntmps92
  go_wp2
  have hin : n < 0 ↔ n < 0 := Iff.rfl
  go_loopw [4, 5] (fun i x wr => ∃ (j k q : Nat) (tail : List UInt8), j + k = 21 ∧ i = .int .i64 j ∧ x = .int .u64 (q : Int) ∧ wr.heap[w.heap.size]? = some (.cells (Lib.byteCells (List.replicate j 0 ++ tail)).toArray 201 (0, 0)) ∧ Below w.heap.size w wr ∧ tail.length = k ∧ dgF 20 m = dgF (20 - k) q ++ tail ∧ (k = 0 ∨ q ≠ 0) ∧ q < 10 ^ (19 - k) ∧ k ≤ 19) (fun i _ _ => (intOf i).toNat)
  case atStart =>
    refine ⟨21, 0, m, [], rfl, rfl, rfl, ?_, (Below.refl _ w).alloc (Nat.le_refl _) _, rfl, by simp, .inl rfl, hm2, by omega⟩
    rw [heap_alloc_new]
    rfl
  case round =>
    obtain ⟨j, k, q, tail, hjk, rfl, rfl, hh, hb, htl, hdg, hkq, hq, hk19⟩ := hrel
    have hsz := hb.size
    have hk18 : k ≤ 18 := by
      rcases hkq with h | h
      · omega
      · by_cases hk : k = 19
        · subst hk; simp at hq; omega
        · omega
    obtain ⟨p, rfl⟩ : ∃ p, j = p + 2 := ⟨j - 2, by omega⟩
    have hlen : (Lib.byteCells (List.replicate (p + 2) 0 ++ tail)).length = 21 := by rw [Lib.byteCells_length]; simp; omega
    have g1 : (0 : Int) ≤ ((p + 1 : Nat) : Int) := by omega
    have g2 : ((p + 1 : Nat) : Int) < 21 := by omega
    have g3 : p + 1 < 21 := by omega
    have g4 : (p : Int) + 1 < 21 := by omega
    have g5 : (p : Int) < 21 := by omega
    have g6 : p < 21 := by omega
    have g7 : p + 1 ≤ 21 := by omega
    have g8 : p ≤ 21 := by omega
    have c1 : ∃ v, wr.cell? ⟨w.heap.size, p + 1, none⟩ = some v := by
      rw [Lib.cell_of_heap hh]; exact ⟨(Lib.byteCells (List.replicate (p + 2) 0 ++ tail))[p + 1]'(by omega), by simp only [List.getElem?_toArray]; exact List.getElem?_eq_getElem _⟩
    obtain ⟨v0, c1⟩ := c1
    have c2 : wr.frozen? ⟨w.heap.size, p + 1, none⟩ = false := Lib.frozen_of_heap hh (p + 1)
    have hq64 : q < 18446744073709551616 := Nat.lt_of_lt_of_le hq (Nat.le_trans (Nat.pow_le_pow_right (by decide) (by omega : 19 - k ≤ 19)) (by decide))
    have hbl := fun v => Joins.block_setCell (i := p + 1) hh v
    have c3 : ∀ v, (wr.setCell ⟨w.heap.size, p + 1, none⟩ v).cell? ⟨w.heap.size, p, none⟩ = some (.int .u8 0) := fun v => by
      rw [Lib.cell_of_heap (hbl v), List.setIfInBounds_toArray, List.getElem?_toArray, List.getElem?_set_ne (by omega)]
      simp [Lib.byteCells, List.getElem?_append]
    have c4 : ∀ v, (wr.setCell ⟨w.heap.size, p + 1, none⟩ v).frozen? ⟨w.heap.size, p, none⟩ = false := fun v => Lib.frozen_of_heap (hbl v) p
    have hbl2 := fun v v' => Joins.block_setCell (i := p) (hbl v) v'
    have hd10 : q % 10 < 10 := Nat.mod_lt _ (by decide)
    have s1 : (0 : Int) ≤ (p : Int) + 2 - 1 := by omega
    have s2 : (p : Int) + 2 - 1 ≤ 21 := by omega
    have s3 : (0 : Int) ≤ (p : Int) + 2 - 1 - 1 := by omega
    have s4 : (p : Int) + 2 - 1 - 1 ≤ 21 := by omega
    have s5 : ((p : Int) + 2 - 1).toNat = p + 1 := by omega
    have s6 : ((p : Int) + 2 - 1 - 1).toNat = p := by omega
    have s7 : ¬ (21 = p + 1) := by omega
    have s8 : ¬ (21 = p) := by omega
    have r1 : ∀ W, (Instr.sliceAt 201 (.pointer (some ⟨w.heap.size, 0, none⟩)) (some (.int .i64 ((p : Int) + 2 - 1))) none none).run Tryz.prog W = .ok (.slice (some ⟨w.heap.size, p + 1, none⟩) (20 - p) (20 - p)) W := fun W => by
      rw [run_sliceAt_array_l (P := Tryz.prog) W 201 _ (by kernel_rfl) .i64 _ s1 (by exact s2), s5, show Tryz.prog.elem 201 = 5 from by kernel_rfl, Tryz.sizeOf5, show Tryz.prog.arrayLen 201 = 21 from by kernel_rfl]
      simp only [Result.andThen, slicedAt, if_neg s7, Addr.add, Nat.mul_one, Nat.zero_add, show 21 - (p + 1) = 20 - p from by omega, Nat.succ_ne_zero, if_false]
    have r2 : ∀ W, (Instr.sliceAt 201 (.pointer (some ⟨w.heap.size, 0, none⟩)) (some (.int .i64 ((p : Int) + 2 - 1 - 1))) none none).run Tryz.prog W = .ok (.slice (some ⟨w.heap.size, p, none⟩) (21 - p) (21 - p)) W := fun W => by
      rw [run_sliceAt_array_l (P := Tryz.prog) W 201 _ (by kernel_rfl) .i64 _ s3 (by exact s4), s6, show Tryz.prog.elem 201 = 5 from by kernel_rfl, Tryz.sizeOf5, show Tryz.prog.arrayLen 201 = 21 from by kernel_rfl]
      simp only [Result.andThen, slicedAt, if_neg s8, Addr.add, Nat.mul_one, Nat.zero_add]
      by_cases hp0 : p = 0
      · subst hp0; rfl
      · rw [if_neg hp0]
    obtain ⟨l1, hl1⟩ : ∃ l, l = UInt8.ofNat (48 + q % 10) :: tail := ⟨_, rfl⟩
    have hll : l1.length = 20 - p := by rw [hl1]; simp; omega
    have hsub : (48 + (q : Int) % 10) = ((UInt8.ofNat (48 + q % 10)).toNat : Int) := by rw [UInt8.toNat_ofNat', Nat.mod_eq_of_lt (by omega)]; omega
    have hw1 : (wr.setCell ⟨w.heap.size, p + 1, none⟩ (.int .u8 (48 + (q : Int) % 10))).heap[w.heap.size]? = some (.cells (Lib.byteCells (List.replicate (p + 1) 0 ++ l1)).toArray 201 (0, 0)) := by
      rw [hbl, hl1, ← set_rep2 (UInt8.ofNat (48 + q % 10)) 0 tail (p + 1), List.setIfInBounds_toArray, hsub]
      simp only [Lib.byteCells, List.map_set]
    have hw2 : ((wr.setCell ⟨w.heap.size, p + 1, none⟩ (.int .u8 (48 + (q : Int) % 10))).setCell ⟨w.heap.size, p, none⟩ (.int .u8 45)).heap[w.heap.size]? = some (.cells (Lib.byteCells (List.replicate p 0 ++ 45 :: l1)).toArray 201 (0, 0)) := by
      rw [Joins.block_setCell hw1, ← set_rep2 45 0 l1 p, List.setIfInBounds_toArray]
      simp only [Lib.byteCells, List.map_set]
      rfl
    have hcv := fun (W : World) (o : Nat) (l : List UInt8) (cap : Nat) (hW : W.heap[w.heap.size]? = some (.cells (Lib.byteCells (List.replicate o 0 ++ l)).toArray 201 (0, 0))) => run_convert_bytes_back (P := Tryz.prog) W 184 9 5 ⟨w.heap.size, o, none⟩ cap l (by kernel_rfl) (by kernel_rfl) (by kernel_rfl) (fun i hi => by
        have ea : (⟨w.heap.size, o, none⟩ : Addr).add i = ⟨w.heap.size, o + i, none⟩ := by unfold Addr.add; split <;> simp [*]
        rw [ea, Lib.cell_of_heap hW, List.getElem?_toArray]
        simp [Lib.byteCells, List.getElem?_append_right, List.getElem?_eq_getElem hi])
    have cv1 := hcv _ (p + 1) l1 (20 - p) hw1
    have cv2 := hcv _ p (45 :: l1) (21 - p) hw2
    rw [hll] at cv1
    rw [show (45 :: l1).length = 21 - p by simp; omega] at cv2
    have hd2 : dgF 20 m = (if q / 10 = 0 then [] else dgF (19 - k) (q / 10)) ++ l1 := by
      rw [hdg, show 20 - k = (19 - k) + 1 by omega, dgF, hl1]; simp
    have hhi : (wr.setCell ⟨w.heap.size, p + 1, none⟩ (.int .u8 (48 + (q : Int) % 10))).heap[w.heap.size]? = some (.cells (Lib.byteCells (List.replicate (p + 1) 0 ++ l1)).toArray 201 (0, 0)) ∧ l1.length = k + 1 ∧ p + 1 + (k + 1) = 21 ∧ q < 10 ^ (19 - k) ∧ l1 = UInt8.ofNat (48 + q % 10) :: tail := ⟨hw1, by omega, by omega, hq, hl1⟩
    clear hjk hkq hq hk19 hdg hcv hw1 hw2 hl1 hsub
    go_wp2
    · go_ret
      rename_i hq0 hn
      have hq0' : q / 10 = 0 := by have := beq_iff_eq.1 hq0; omega
      rw [if_pos hq0', List.nil_append, hhi.2.2.2.2, ← w_add8] at hd2
      have e : whS n = 45 :: (48 + UInt8.ofNat (q % 10)) :: tail := by rw [whS, if_pos hn, hmm, hd2]; rfl
      rw [e]
      exact ⟨rfl, (hb.setCell (p := ⟨w.heap.size, p + 1, none⟩) (Nat.le_refl _) _).setCell (p := ⟨w.heap.size, p, none⟩) (Nat.le_refl _) _⟩
    · go_ret
      rename_i hq0 hn
      have hq0' : q / 10 = 0 := by have := beq_iff_eq.1 hq0; omega
      rw [if_pos hq0', List.nil_append, hhi.2.2.2.2, ← w_add8] at hd2
      have e : whS n = (48 + UInt8.ofNat (q % 10)) :: tail := by rw [whS, if_neg (by omega), hmm, hd2]; rfl
      rw [e]
      exact ⟨rfl, hb.setCell (p := ⟨w.heap.size, p + 1, none⟩) (Nat.le_refl _) _⟩
    · obtain ⟨hw1, hl, hjk, hq, hl1⟩ := hhi
      rename_i hq0
      have hq0' : ¬ (q / 10 = 0) := fun e => by have := beq_eq_false_iff_ne.1 hq0; omega
      refine ⟨⟨p + 1, k + 1, q / 10, l1, hjk, ?_, ?_, hw1, hb.setCell (p := ⟨w.heap.size, p + 1, none⟩) (Nat.le_refl _) _, hl, ?_, .inr hq0', ?_, by omega⟩, by simp only [intOf]; omega⟩
      · rw [show (p : Int) + 2 - 1 = ((p + 1 : Nat) : Int) by omega]
      · rw [show (q : Int) / 10 = ((q / 10 : Nat) : Int) by omega]
      · rw [hd2, if_neg hq0', show 20 - (k + 1) = 19 - k by omega]
      · refine Nat.div_lt_of_lt_mul ?_
        have e : 19 - k = 19 - (k + 1) + 1 := by omega
        rw [e, Nat.pow_succ, Nat.mul_comm] at hq
        exact hq
theorem c_lex_whole (N : Nat) : C_lex_whole.Ok prog N := by
  refine ⟨⟨Tryz.f92, Tryz.func92, by kernel_rfl, by kernel_rfl⟩, fun a r h => ?_⟩
  have h : s_lex_whole N a.1 = some r := h
  unfold s_lex_whole at h
  obtain ⟨h1, h2⟩ := gd_some h
  obtain rfl := Option.some.inj h2
  intro M S w vs hh _ hsz hrep
  obtain ⟨v, rfl⟩ : ∃ v, vs = #[v] := by
    match vs, hsz with
    | ⟨[v]⟩, _ => exact ⟨v, rfl⟩
  have h0 : v = .int .i64 a.1 := VRep.v_eq (hrep 0 (Nat.zero_lt_one))
  subst h0
  obtain ⟨k1, k2⟩ := (Bool.and_eq_true _ _).mp h1
  refine (whole_walk a.1 (leB_iff.1 k1) (leB_iff.1 k2) w).mono ?_
  rintro e w' ⟨rfl, hb⟩
  have hg : Grew w w' := ⟨hb.os, hb.tape, hb.output, hb.size, hb.block⟩
  exact ⟨M, S, .data (.v _), hh.grew hg, .grew hh hg⟩
end Go.Proofs.YtfmibkkigkgecaaGreatDoor.V
namespace Go.Proofs.YtfmibkkigkgecaaGreatDoor.V
open Go Go.Shelf Go.RowKit Go.Proofs.Tryz
set_option maxHeartbeats 1000000
set_option maxRecDepth 1000000
theorem hxS_len (u : Nat) : ∀ k, (hxS k u).length = k
  | 0 => rfl
  | k + 1 => by simp [hxS, hxS_len u k]
theorem and15 (q : Nat) (h : q < 18446744073709551616) : bits .and .u64 (q : Int) 15 = ((q % 16 : Nat) : Int) := by
  have := bits_and_u64_nat q 15 h (by decide)
  rw [show ((15 : Nat) : Int) = 15 from rfl] at this
  rw [this, show q &&& 15 = q % 16 from Nat.and_two_pow_sub_one_eq_mod q 4]
theorem lb_hex {k : Nat} (h : k < 16) : ({ data := #[48, 49, 50, 51, 52, 53, 54, 55, 56, 57, 97, 98, 99, 100, 101, 102] } : ByteArray)[k]'h = hexB k := by
  have : ∀ k : Fin 16, ({ data := #[48, 49, 50, 51, 52, 53, 54, 55, 56, 57, 97, 98, 99, 100, 101, 102] } : ByteArray)[k.1]'k.2 = hexB k.1 := by decide
  exact this ⟨k, h⟩
theorem lb_set {α : Type} (a x z : α) (r : List α) : ∀ j, (a :: (List.replicate (j + 1) z ++ r)).set (j + 1) x = a :: (List.replicate j z ++ x :: r)
  | 0 => rfl
  | j + 1 => by
    have := lb_set z x z r j
    simp only [List.replicate_succ, List.cons_append, List.set_cons_succ] at this ⊢
    rw [this]
theorem bits_walk (u : Nat) (hu : u < 18446744073709551616) (w : World) :
    Calls Tryz.prog 93 #[.int .u64 (u : Int)] w fun e w' => e = .returned (.string (bs (bitS u))) ∧ Below w.heap.size w w' := by
  go_enter Tryz.func93, Tryz.ntmps93
  go_wp2
  go_loopw [0, 4] (fun x i wr => ∃ j k : Nat, j + k = 16 ∧ x = .int .u64 ((u / 16 ^ k : Nat) : Int) ∧ i = .int .i64 j ∧ wr.heap[w.heap.size]? = some (.cells (Lib.byteCells (35 :: (List.replicate j 0 ++ hxS k u))).toArray 202 (0, 0)) ∧ Below w.heap.size w wr) (fun _ i _ => (intOf i).toNat)
  case atStart =>
    refine ⟨16, 0, rfl, by simp, rfl, ?_, (Below.refl _ w).alloc (Nat.le_refl _) _⟩
    rw [heap_alloc_new]
    rfl
  case round =>
    obtain ⟨j, k, hjk, rfl, rfl, hh, hb⟩ := hrel
    have hsz := hb.size
    have hlen : (Lib.byteCells (35 :: (List.replicate j 0 ++ hxS k u))).length = 17 := by rw [Lib.byteCells_length]; simp [hxS_len]; omega
    have hq' : u / 16 ^ k < 18446744073709551616 := Nat.lt_of_le_of_lt (Nat.div_le_self _ _) hu
    by_cases hj : j = 0
    · subst hj
      obtain rfl : k = 16 := by omega
      have hcv := fun (P : Program) (src dst e : TypeId) hs he hd => run_convert_bytes_back (P := P) wr src dst e ⟨w.heap.size, 0, none⟩ 17 (bitS u) hs he hd (fun i hi => by
        have ea : (⟨w.heap.size, 0, none⟩ : Addr).add i = ⟨w.heap.size, i, none⟩ := by simp [Addr.add]; exact fun h => h.symm
        rw [ea, Lib.cell_of_heap hh, List.getElem?_toArray]
        show (Lib.byteCells (bitS u))[i]? = _
        simp [Lib.byteCells, List.getElem?_eq_getElem hi])
      generalize u / 16 ^ 16 = q
      have hcv' := hcv Tryz.prog 184 9 5 (by kernel_rfl) (by kernel_rfl) (by kernel_rfl)
      rw [show (bitS u).length = 17 by simp [bitS, hxS_len]] at hcv'
      clear hcv
      go_wp2
      go_ret
      exact ⟨rfl, hb⟩
    · obtain ⟨j, rfl⟩ : ∃ j', j = j' + 1 := ⟨j - 1, by omega⟩
      have h1 : (0 : Int) < ((j + 1 : Nat) : Int) := by omega
      have h2 : ((j + 1 : Nat) : Int) < 17 := by omega
      have h3 : j + 1 < 17 := by omega
      have c1 : ∃ v, wr.cell? ⟨w.heap.size, j + 1, none⟩ = some v := by
        rw [Lib.cell_of_heap hh]; exact ⟨(Lib.byteCells (35 :: (List.replicate (j + 1) 0 ++ hxS k u)))[j + 1]'(by omega), by simp only [List.getElem?_toArray]; exact List.getElem?_eq_getElem _⟩
      obtain ⟨v0, c1⟩ := c1
      have c2 : wr.frozen? ⟨w.heap.size, j + 1, none⟩ = false := Lib.frozen_of_heap hh (j + 1)
      have hbl := fun v => Joins.block_setCell (i := j + 1) hh v
      have hdd : u / 16 ^ k / 16 = u / 16 ^ (k + 1) := by rw [Nat.div_div_eq_div_mul, Nat.pow_succ]
      have hhx : hexB (u / 16 ^ k % 16) :: hxS k u = hxS (k + 1) u := rfl
      generalize u / 16 ^ k = q at *
      have hb15 := and15 q hq'
      have hk1 : q % 16 < 16 := by omega
      go_wp2
      refine ⟨⟨j, k + 1, by omega, by rw [← hdd]; simp, rfl, ?_, hb.setCell (p := ⟨w.heap.size, j + 1, none⟩) (Nat.le_refl _) _⟩, by simp only [intOf]; omega⟩
      rw [hbl, lb_hex hk1, ← hhx, ← lb_set 35 (hexB (q % 16)) 0 (hxS k u) j, List.setIfInBounds_toArray]
      simp only [Lib.byteCells, List.map_set]
theorem c_lex_bits (N : Nat) : C_lex_bits.Ok prog N := by
  refine ⟨⟨Tryz.f93, Tryz.func93, by kernel_rfl, by kernel_rfl⟩, fun a r h => ?_⟩
  have h : s_lex_bits N a.1 = some r := h
  unfold s_lex_bits at h
  obtain ⟨h1, h2⟩ := gd_some h
  obtain rfl := Option.some.inj h2
  intro M S w vs hh _ hsz hrep
  obtain ⟨v, rfl⟩ : ∃ v, vs = #[v] := by
    match vs, hsz with
    | ⟨[v]⟩, _ => exact ⟨v, rfl⟩
  have h0 : v = .int .u64 a.1 := VRep.v_eq (hrep 0 (Nat.zero_lt_one))
  subst h0
  obtain ⟨k1, k2⟩ := (Bool.and_eq_true _ _).mp h1
  obtain ⟨u, hu⟩ : ∃ u : Nat, a.1 = (u : Int) := ⟨a.1.toNat, by have := leB_iff.1 k1; omega⟩
  have k3 : a.1 < 18446744073709551616 := ltB_iff.1 k2
  rw [hu] at k3 ⊢
  refine (bits_walk u (by omega) w).mono ?_
  rintro e w' ⟨rfl, hb⟩
  have hg : Grew w w' := ⟨hb.os, hb.tape, hb.output, hb.size, hb.block⟩
  exact ⟨M, S, .data (.v _), hh.grew hg, .grew hh hg⟩
end Go.Proofs.YtfmibkkigkgecaaGreatDoor.V
namespace Go.Proofs.YtfmibkkigkgecaaGreatDoor.V
open Go Go.Shelf Go.RowKit Go.Proofs.Tryz
set_option maxHeartbeats 1000000
set_option maxRecDepth 1000000
theorem lx_size (x : List UInt8) : (bs x).size = x.length := by simp [bs, ByteArray.size]
theorem lx_one (x : List UInt8) (c : UInt8) : Lib.byteCells x ++ [Value.int .u8 (c.toNat : Int)] = Lib.byteCells (x ++ [c]) := by rw [Lib.byteCells_append]; rfl
theorem lx_le1 (c : UInt8) : (txC c).length ≤ 3 := by unfold txC; split
                                                      · decide
                                                      · split <;> simp
theorem lx_le (l : List UInt8) : (l.flatMap txC).length ≤ 3 * l.length := by
  induction l with
  | nil => exact Nat.zero_le _
  | cons c l ih => have := lx_le1 c; simp only [List.flatMap_cons, List.length_append, List.length_cons]; omega
theorem txC_eq (c : UInt8) : txC c = if c.toNat = 39 then [39, 39] else if c.toNat < 32 ∨ 126 < c.toNat ∨ c.toNat = 92 then [92, hexB (c.toNat / 16), hexB (c.toNat % 16)] else [c] := by
  unfold txC
  simp only [UInt8.lt_iff_toNat_lt, ← UInt8.toNat_inj]
  rfl
theorem lx_hex {k : Nat} (h : k < 16) : ({ data := #[48, 49, 50, 51, 52, 53, 54, 55, 56, 57, 97, 98, 99, 100, 101, 102] } : ByteArray)[k]'h = hexB k := by
  have : ∀ k : Fin 16, ({ data := #[48, 49, 50, 51, 52, 53, 54, 55, 56, 57, 97, 98, 99, 100, 101, 102] } : ByteArray)[k.1]'k.2 = hexB k.1 := by decide
  exact this ⟨k, h⟩
theorem lx_write {w wr : World} {x : List UInt8} (v : Int) (hI : Lib.IsBuilderF 205 5 w.heap.size w.heap.size (Lib.byteCells x) wr) (hb : Below w.heap.size w wr) (hq : x.length ≤ 100000000000) :
    Calls Tryz.prog 132 #[.pointer (some ⟨w.heap.size, 0, none⟩), .int .u8 v] wr fun e W => e = .returned .nilIface ∧ (∀ c : UInt8, v = (c.toNat : Int) → Lib.IsBuilderF 205 5 w.heap.size w.heap.size (Lib.byteCells (x ++ [c])) W) ∧ Below w.heap.size w W := by
  refine (Any.Builder_WriteByte_k lays167 bextra w.heap.size w.heap.size _ v _ hI (by rw [Lib.byteCells_length]; omega) hb.size).mono ?_
  rintro e W ⟨rfl, h, b, _⟩
  refine ⟨rfl, fun c hc => Or.inr ?_, hb.trans b⟩
  subst hc
  rw [← lx_one]; exact h
theorem lx_walk (l : List UInt8) (w : World) (hlen : l.length ≤ 10000000000) :
    Calls Tryz.prog 94 #[.string (bs l)] w fun e w' => e = .returned (.string (bs (txS l))) ∧ Below w.heap.size w w' := by
  have hat : ∀ pre c rest, l = pre ++ c :: rest → ∃ h : pre.length < (bs l).size, (bs l)[pre.length]'h = c := fun pre c rest h => by
    subst h
    refine ⟨by rw [lx_size]; simp, ?_⟩
    exact (by simp : (pre ++ c :: rest).toArray[pre.length]'(by simp) = c)
  have hn' : l.length = (bs l).size := by rw [lx_size]
  obtain ⟨T, hT⟩ : ∃ T, T = txS l := ⟨_, rfl⟩
  rw [← hT]
  generalize bs l = B at *
  obtain ⟨n, hn⟩ : ∃ n, B.size = n := ⟨_, rfl⟩
  rw [hn] at hn'
  go_enter Tryz.func94, Tryz.ntmps94
  go_wp2_with (go_at_call 132; refine (lx_write (x := []) 39 (Lib.IsBuilderF.of (Lib.fresh_isBuilder 205 5 w)) ((Below.refl _ w).alloc (Nat.le_refl _) _) (by simp)).mono ?_)
  rintro e W0 ⟨rfl, h0, b0⟩
  have h0 := h0 39 rfl
  go_wp2
  go_loopw [9] (fun i wr => ∃ (pre rest : List UInt8), l = pre ++ rest ∧ i = .int .i64 pre.length ∧ Lib.IsBuilderF 205 5 w.heap.size w.heap.size (Lib.byteCells ([39] ++ pre.flatMap txC)) wr ∧ Below w.heap.size w wr) (fun i _ => n - (intOf i).toNat)
  case atStart => exact ⟨[], l, rfl, rfl, h0, b0⟩
  case round =>
    obtain ⟨pre, rest, hl, rfl, hI, hb⟩ := hrel
    have hsz := hb.size
    have htx := lx_le pre
    cases rest with
    | nil =>
      have hc : ¬ ((pre.length : Int) < (n : Int)) := by rw [← hn', hl]; simp
      rw [List.append_nil] at hl
      have hq : ([39] ++ pre.flatMap txC).length ≤ 100000000000 := by subst hl; simp only [List.length_append, List.length_cons, List.length_nil]; omega
      clear hlen hat htx
      subst hl
      go_wp2_with (first | (go_at_call 132; refine (lx_write 39 hI hb hq).mono ?_; rintro e W1 ⟨rfl, h1, b1⟩; have h1 := h1 39 rfl) | (go_at_call 134; refine (Any.Builder_String_any_k lays169 bextra w.heap.size w.heap.size _ _ h1 (by have := b1.size; omega)).mono ?_; rintro e W2 ⟨rfl, _, b2, _⟩))
      go_ret
      exact ⟨by rw [hT]; rfl, b1.trans b2⟩
    | cons c rest =>
      have hlp : pre.length < l.length := by rw [hl]; simp
      have hc : ((pre.length : Int) < (n : Int)) := by omega
      have hlt : pre.length < n := by omega
      obtain ⟨hx1, hx⟩ := hat pre c rest hl
      have hq : ([39] ++ pre.flatMap txC).length ≤ 100000000000 - 10 := by simp only [List.length_append, List.length_cons, List.length_nil]; omega
      clear hat
      have hq1 : ([39] ++ pre.flatMap txC).length ≤ 100000000000 := by omega
      have hq2 : (([39] ++ pre.flatMap txC) ++ [92]).length ≤ 100000000000 := by rw [List.length_append]; simp only [List.length_cons, List.length_nil]; omega
      have hq3 : ∀ d : UInt8, ((([39] ++ pre.flatMap txC) ++ [92]) ++ [d]).length ≤ 100000000000 := fun d => by rw [List.length_append, List.length_append]; simp only [List.length_cons, List.length_nil]; omega
      have h256 : c.toNat < 256 := c.toNat_lt
      have hk1 : c.toNat / 16 < 16 := by omega
      have hk2 : c.toNat % 16 < 16 := by omega
      go_wp2_with (first
        | (go_at_call 132; refine (lx_write _ hI hb hq1).mono ?_; rintro e W1 ⟨rfl, h1, b1⟩; first | have h1 := h1 92 rfl | have h1 := h1 c rfl)
        | (go_at_call 132; refine (lx_write _ h1 b1 hq2).mono ?_; rintro e W2 ⟨rfl, h2, b2⟩; have h2 := h2 _ rfl)
        | (go_at_call 132; refine (lx_write _ h2 b2 (hq3 _)).mono ?_; rintro e W3 ⟨rfl, h3, b3⟩; have h3 := h3 _ rfl)
        | (go_at_call 133; refine (Any.Builder_WriteString_k lays166 bextra w.heap.size w.heap.size _ _ _ hI (by rw [Lib.byteCells_length]; exact Nat.le_trans (Nat.add_le_add hq1 (Nat.le_refl _)) (by decide)) hsz).mono ?_; rintro e W1 ⟨rfl, h1, b1, _⟩))
      all_goals
        refine ⟨⟨pre ++ [c], rest, by rw [hl]; simp, by simp, ?_, by first | assumption | exact hb.trans (by assumption)⟩, by simp only [intOf]; omega⟩
        rw [show [39] ++ (pre ++ [c]).flatMap txC = ([39] ++ pre.flatMap txC) ++ txC c by simp, txC_eq]
        clear hT hl hn' hn hc hlt hlp hx hx1
        try simp only [beq_iff_eq, beq_eq_false_iff_ne, ne_eq] at *
        first
          | (rw [if_pos (by omega)]
             rw [show Lib.strCells { data := #[39, 39] } = Lib.byteCells [39, 39] from rfl, ← Lib.byteCells_append] at h1
             exact Or.inr h1)
          | (rw [if_neg (by omega), if_pos (by omega)]
             rw [lx_hex hk1, lx_hex hk2] at h3
             simpa only [List.append_assoc, List.cons_append, List.nil_append] using h3)
          | (rw [if_neg (by omega), if_neg (by omega)]; exact h1)
theorem c_lex_text (N : Nat) : C_lex_text.Ok prog N := by
  refine ⟨⟨Tryz.f94, Tryz.func94, by kernel_rfl, by kernel_rfl⟩, fun a r h => ?_⟩
  have h : s_lex_text N a.1 = some r := h
  unfold s_lex_text at h
  obtain ⟨h1, h2⟩ := gd_some h
  obtain rfl := Option.some.inj h2
  intro M S w vs hh _ hsz hrep
  obtain ⟨v, rfl⟩ : ∃ v, vs = #[v] := by
    match vs, hsz with
    | ⟨[v]⟩, _ => exact ⟨v, rfl⟩
  have h0 : v = .string (bs a.1) := VRep.v_eq (hrep 0 (Nat.zero_lt_one))
  subst h0
  refine (lx_walk a.1 w (Nat.le_of_ble_eq_true h1)).mono ?_
  rintro e w' ⟨rfl, hb⟩
  have hg : Grew w w' := ⟨hb.os, hb.tape, hb.output, hb.size, hb.block⟩
  exact ⟨M, S, .data (.v _), hh.grew hg, .grew hh hg⟩
end Go.Proofs.YtfmibkkigkgecaaGreatDoor.V
namespace Go.Proofs.YtfmibkkigkgecaaGreatDoor.V
open Go Go.RowKit Go.Extern.Stop Go.Stop Go.Extern Go.Proofs.Tryz
set_option maxHeartbeats 4000000
set_option maxRecDepth 1000000
theorem fa_nil (t : Value) (w : World) :
    Calls Tryz.prog 38 #[.nilIface, t] w fun e w' => e = .returned (.bool false) ∧ w' = w := by
  go_enter Tryz.func38, Tryz.ntmps38
  go_wp2
  go_ret
  exact ⟨rfl, rfl⟩
theorem find_nil (w : World) : Calls Tryz.prog 34 #[.nilIface] w fun e w' => e = .returned (.pointer none) ∧ Below w.heap.size w w' := by
  go_enter Tryz.func34, Tryz.ntmps34
  go_wp2_with (go_at_call 38; refine (fa_nil _ _).mono ?_; rintro e w' ⟨rfl, rfl⟩)
  go_ret
  exact ⟨rfl, (Below.refl _ w).alloc (Nat.le_refl _) _⟩
theorem c_fault_find_n (N : Nat) : C_fault_find_n.Ok prog N := by
  refine ⟨⟨Tryz.f34, Tryz.func34, by kernel_rfl, by kernel_rfl⟩, fun a r h => ?_⟩
  intro M S w vs hh _ hsz hrep
  obtain ⟨v, rfl⟩ : ∃ v, vs = #[v] := by
    match vs, hsz with
    | ⟨[v]⟩, _ => exact ⟨v, rfl⟩
  have h0 : v = .nilIface := VRep.v_eq (hrep 0 (Nat.zero_lt_one))
  subst h0
  refine (find_nil w).mono ?_
  rintro e w' ⟨rfl, hb⟩
  have hg : Grew w w' := ⟨hb.os, hb.tape, hb.output, hb.size, hb.block⟩
  exact ⟨M, S, .data (.v _), hh.grew hg, .grew hh hg⟩
end Go.Proofs.YtfmibkkigkgecaaGreatDoor.V
