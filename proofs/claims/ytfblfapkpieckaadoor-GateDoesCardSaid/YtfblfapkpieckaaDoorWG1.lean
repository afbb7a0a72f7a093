/- The code, and what each function of it is walked to. No premise beyond what each theorem says. -/
import Derived.Test.YtfblfapkpieckaaDoorWA2
import Derived.Test.YtfblfapkpieckaaDoorProg
set_option linter.all false
set_option linter.unusedSimpArgs false
set_option linter.unusedVariables false
namespace Go.Proofs.YtfblfapkpieckaaDoor.W
open Go
open Go.Proofs.Tryd
set_option linter.unusedSimpArgs false
set_option linter.unusedVariables false
theorem hm : prog.follows .mixedOrders = true := by kernel_rfl
structure schema_Field where
  Name : List UInt8
  Kind : Int
def schema_Field.av (x : schema_Field) : AV := .agg [.v (.string (bs x.Name)), .v (.int .u8 x.Kind)]
structure schema_Type where
  Name : List UInt8
  Fields : List schema_Field
def schema_Type.av (x : schema_Type) : AV := .agg [.v (.string (bs x.Name)), .sl 2 (List.map schema_Field.av x.Fields)]
structure value_Value where
  Kind : Int
  N : Int
  Bits : Int
  Text : List UInt8
def value_Value.av (x : value_Value) : AV := .agg [.v (.int .u8 x.Kind), .v (.int .i64 x.N), .v (.int .u64 x.Bits), .v (.string (bs x.Text))]
structure event_Event where
  Time : Int
  Source : Int
  Seq : Int
  Type_ : List UInt8
  Vals : List value_Value
def event_Event.av (x : event_Event) : AV := .agg [.v (.int .i64 x.Time), .v (.int .i64 x.Source), .v (.int .i64 x.Seq), .v (.string (bs x.Type_)), .sl 4 (List.map value_Value.av x.Vals)]
structure law32_Op where
  Kind : Int
  S : Int
  A : Int
  E : event_Event
def law32_Op.av (x : law32_Op) : AV := .agg [.v (.int .u8 x.Kind), .v (.int .i64 x.S), .v (.int .i64 x.A), .v (.int .i64 x.E.Time), .v (.int .i64 x.E.Source), .v (.int .i64 x.E.Seq), .v (.string (bs x.E.Type_)), .sl 4 (List.map value_Value.av x.E.Vals)]
structure gate_Source where
  Front : Int
  Last : Int
  Closed : Bool
def gate_Source.av (x : gate_Source) : AV := .agg [.v (.int .i64 x.Front), .v (.int .i64 x.Last), .v (.bool x.Closed)]
structure gate_Gate where
  Types : List schema_Type
  L : List gate_Source
def gate_Gate.av (x : gate_Gate) : AV := .agg [.sl 2 (List.map schema_Type.av x.Types), .sl 3 (List.map gate_Source.av x.L)]
structure event_ID where
  Time : Int
  Source : Int
  Seq : Int
def event_ID.av (x : event_ID) : AV := .agg [.v (.int .i64 x.Time), .v (.int .i64 x.Source), .v (.int .i64 x.Seq)]
inductive U_value_holds where
  | nil
  | double_ (x : Int)
  | flag_ (x : Int)
  | number_ (x : Int)
  | words_ (x : List UInt8)
def U_value_holds.av : U_value_holds → AV
  | .nil => .v .nilIface
  | .double_ x => .ifc 134 (.v (.int .u64 x))
  | .flag_ x => .ifc 133 (.v (.int .i64 x))
  | .number_ x => .ifc 132 (.v (.int .i64 x))
  | .words_ x => .ifc 136 (.v (.string (bs x)))
def U_value_holds.el {β : Type} : U_value_holds → β → (Int → β) → (Int → β) → (Int → β) → (List UInt8 → β) → β
  | .nil, f0, _, _, _, _ => f0
  | .double_ x, _, f1, _, _, _ => f1 x
  | .flag_ x, _, _, f2, _, _ => f2 x
  | .number_ x, _, _, _, f3, _ => f3 x
  | .words_ x, _, _, _, _, f4 => f4 x
theorem Et : (∀ k n, iav k n = .v (.int k n)) ∧ (∀ b, bav b = .v (.bool b)) ∧ (∀ s, sav s = .v (.string (bs s))) ∧ (∀ (α : Type) (k : Nat) (f : α → AV) (l : List α), slav k f l = .sl k (l.map f)) ∧ (∀ k n, fav k n = .v (.float k n)) ∧ (∀ x, schema_Field.av x = .agg [.v (.string (bs x.Name)), .v (.int .u8 x.Kind)]) ∧ (∀ x, schema_Type.av x = .agg [.v (.string (bs x.Name)), .sl 2 (List.map schema_Field.av x.Fields)]) ∧ (∀ x, value_Value.av x = .agg [.v (.int .u8 x.Kind), .v (.int .i64 x.N), .v (.int .u64 x.Bits), .v (.string (bs x.Text))]) ∧ (∀ x, event_Event.av x = .agg [.v (.int .i64 x.Time), .v (.int .i64 x.Source), .v (.int .i64 x.Seq), .v (.string (bs x.Type_)), .sl 4 (List.map value_Value.av x.Vals)]) ∧ (∀ x, law32_Op.av x = .agg [.v (.int .u8 x.Kind), .v (.int .i64 x.S), .v (.int .i64 x.A), .v (.int .i64 x.E.Time), .v (.int .i64 x.E.Source), .v (.int .i64 x.E.Seq), .v (.string (bs x.E.Type_)), .sl 4 (List.map value_Value.av x.E.Vals)]) ∧ (∀ x, gate_Source.av x = .agg [.v (.int .i64 x.Front), .v (.int .i64 x.Last), .v (.bool x.Closed)]) ∧ (∀ x, gate_Gate.av x = .agg [.sl 2 (List.map schema_Type.av x.Types), .sl 3 (List.map gate_Source.av x.L)]) ∧ (∀ x, event_ID.av x = .agg [.v (.int .i64 x.Time), .v (.int .i64 x.Source), .v (.int .i64 x.Seq)]) ∧ U_value_holds.av .nil = .v .nilIface ∧ (∀ x, U_value_holds.av (.double_ x) = .ifc 134 (.v (.int .u64 x))) ∧ (∀ x, U_value_holds.av (.flag_ x) = .ifc 133 (.v (.int .i64 x))) ∧ (∀ x, U_value_holds.av (.number_ x) = .ifc 132 (.v (.int .i64 x))) ∧ (∀ x, U_value_holds.av (.words_ x) = .ifc 136 (.v (.string (bs x)))) :=
  ⟨fun _ _ => rfl, fun _ => rfl, fun _ => rfl, fun _ _ _ _ => rfl, fun _ _ => rfl, fun _ => rfl, fun _ => rfl, fun _ => rfl, fun _ => rfl, fun _ => rfl, fun _ => rfl, fun _ => rfl, fun _ => rfl, rfl, fun _ => rfl, fun _ => rfl, fun _ => rfl, fun _ => rfl⟩
abbrev k_law06_Over_0 : SC := (.ops false [(.op (some 14) (.mov (.t 0))), (.op (some 15) (.mov (.t 3))), (.op (some 16) (.ia 2 (.t 14) (.t 15))), (.op (some 17) (.fa 0 (.t 16))), (.op (some 18) (.ld 1 false (.t 17))), (.op (some 19) (.len true (.t 18))), (.op (some 20) (.bin .gtr false (.t 19) (.c (.i 40)))), (.op (some 21) (.mov (.t 20))), (.grp 21 false [⟨(some 22), (.mov (.t 0))⟩, ⟨(some 23), (.mov (.t 3))⟩, ⟨(some 24), (.ia 2 (.t 22) (.t 23))⟩, ⟨(some 25), (.fa 1 (.t 24))⟩, ⟨(some 26), (.ld 1 false (.t 25))⟩, ⟨(some 27), (.len false (.t 26))⟩, ⟨(some 28), (.bin .gtr false (.t 27) (.c (.i 12)))⟩]), (.op (some 29) (.pick (.t 21) (.c (.b true)) (.t 28)))])
abbrev k_law06_Over_1 : SC := (.block 3 (.seq (.ops false [(.op (some 40) (.mov (.t 0))), (.op (some 41) (.mov (.t 3))), (.op (some 42) (.ia 2 (.t 40) (.t 41))), (.op (some 43) (.fa 1 (.t 42))), (.op (some 44) (.ld 1 false (.t 43))), (.op (some 45) (.mov (.t 4))), (.op (some 46) (.ia 2 (.t 44) (.t 45))), (.op (some 47) (.fa 0 (.t 46))), (.op (some 48) (.ld 1 false (.t 47))), (.op (some 49) (.len true (.t 48))), (.op (some 50) (.bin .gtr false (.t 49) (.c (.i 40))))]) (.cond (.t 50) (.seq (.ops false [(.op (some 2) (.mov (.c (.i 1))))]) .ret) .skip)))
abbrev k_law06_Over_2 : SC := (.seq (.seq (.ops false [(.op (some 30) (.mov (.t 4))), (.op (some 31) (.mov (.t 0))), (.op (some 32) (.mov (.t 3))), (.op (some 33) (.ia 2 (.t 31) (.t 32))), (.op (some 34) (.fa 1 (.t 33))), (.op (some 35) (.ld 1 false (.t 34))), (.op (some 36) (.len false (.t 35))), (.op (some 37) (.bin .lss false (.t 30) (.t 36)))]) (.cond (.t 37) .skip (.exit 2))) (.seq k_law06_Over_1 (.ops false [(.op (some 38) (.mov (.t 4))), (.op (some 39) (.bin .add false (.t 38) (.c (.i 1)))), (.op (some 4) (.mov (.t 39)))])))
abbrev k_law06_Over_3 : SC := (.block 2 (.loop k_law06_Over_2))
abbrev k_law06_Over_4 : SC := (.seq (.ops false [(.op (some 4) (.mov (.c (.i 0))))]) k_law06_Over_3)
abbrev k_law06_Over_5 : SC := (.block 1 (.seq (.seq k_law06_Over_0 (.cond (.t 29) (.seq (.ops false [(.op (some 2) (.mov (.c (.i 1))))]) .ret) .skip)) k_law06_Over_4))
abbrev k_law06_Over_6 : SC := (.seq k_law06_Over_5 (.ops false [(.op (some 12) (.mov (.t 3))), (.op (some 13) (.bin .add false (.t 12) (.c (.i 1)))), (.op (some 3) (.mov (.t 13)))]))
abbrev k_law06_Over_7 : SC := (.seq (.seq (.ops false [(.op (some 8) (.mov (.t 3))), (.op (some 9) (.mov (.t 0))), (.op (some 10) (.len false (.t 9))), (.op (some 11) (.bin .lss false (.t 8) (.t 10)))]) (.cond (.t 11) .skip (.exit 0))) k_law06_Over_6)
abbrev k_law06_Over_8 : SC := (.block 0 (.loop k_law06_Over_7))
abbrev k_law06_Over_9 : SC := (.seq (.ops false [(.op (some 3) (.mov (.c (.i 0))))]) k_law06_Over_8)
abbrev k_law06_Over_10 : SC := (.seq k_law06_Over_9 (.seq (.ops false [(.op (some 2) (.mov (.c (.i 0))))]) .ret))
abbrev k_law06_Over_11 : SC := (.seq (.seq (.ops false [(.op (some 5) (.mov (.t 0))), (.op (some 6) (.len false (.t 5))), (.op (some 7) (.bin .gtr false (.t 6) (.c (.i 12))))]) (.cond (.t 7) (.seq (.ops false [(.op (some 2) (.mov (.c (.i 1))))]) .ret) .skip)) k_law06_Over_10)
abbrev k_law06_Over : SC := (.seq (.ops false [(.op (some 2) (.mov (.c (.i 0))))]) k_law06_Over_11)
abbrev k_schema_letter : SC := (.seq (.ops false [(.op (some 2) (.mov (.c (.b false))))]) (.seq (.ops false [(.op (some 3) (.mov (.t 0))), (.op (some 4) (.bin .leq false (.c (.v (.int .u8 97))) (.t 3))), (.op (some 5) (.mov (.t 4))), (.grp 5 true [⟨(some 6), (.mov (.t 0))⟩, ⟨(some 7), (.bin .leq false (.t 6) (.c (.v (.int .u8 122))))⟩]), (.op (some 8) (.pick (.t 5) (.t 7) (.c (.b false)))), (.op (some 2) (.mov (.t 8)))]) .ret))
abbrev k_schema_Reserved_0 : SC := (.seq (.ops false [(.op (some 12) (.bin .eql false (.t 3) (.c (.s [115, 116, 114, 105, 99, 116])))), (.op (some 4) (.mov (.t 12)))]) (.cond (.t 4) .skip (.seq (.ops false [(.op (some 13) (.bin .eql false (.t 3) (.c (.s [116, 114, 117, 101])))), (.op (some 4) (.mov (.t 13)))]) (.cond (.t 4) .skip (.ops false [(.op (some 14) (.bin .eql false (.t 3) (.c (.s [102, 97, 108, 115, 101])))), (.op (some 4) (.mov (.t 14)))])))))
abbrev k_schema_Reserved_1 : SC := (.seq (.ops false [(.op (some 10) (.bin .eql false (.t 3) (.c (.s [97, 110, 121])))), (.op (some 4) (.mov (.t 10)))]) (.cond (.t 4) .skip (.seq (.ops false [(.op (some 11) (.bin .eql false (.t 3) (.c (.s [110, 101, 120, 116])))), (.op (some 4) (.mov (.t 11)))]) (.cond (.t 4) .skip k_schema_Reserved_0))))
abbrev k_schema_Reserved_2 : SC := (.seq (.ops false [(.op (some 7) (.bin .eql false (.t 3) (.c (.s [97, 110, 100])))), (.op (some 4) (.mov (.t 7)))]) (.cond (.t 4) .skip (.seq (.ops false [(.op (some 8) (.bin .eql false (.t 3) (.c (.s [111, 114])))), (.op (some 4) (.mov (.t 8)))]) (.cond (.t 4) .skip (.seq (.ops false [(.op (some 9) (.bin .eql false (.t 3) (.c (.s [110, 111, 116])))), (.op (some 4) (.mov (.t 9)))]) (.cond (.t 4) .skip k_schema_Reserved_1))))))
abbrev k_schema_Reserved_3 : SC := (.seq (.seq (.ops false [(.op (some 3) (.mov (.t 0)))]) (.block 0 (.seq (.seq (.ops false [(.op (some 5) (.bin .eql false (.t 3) (.c (.s [119, 105, 116, 104, 105, 110])))), (.op (some 4) (.mov (.t 5)))]) (.cond (.t 4) .skip (.seq (.ops false [(.op (some 6) (.bin .eql false (.t 3) (.c (.s [98, 121])))), (.op (some 4) (.mov (.t 6)))]) (.cond (.t 4) .skip k_schema_Reserved_2)))) (.cond (.t 4) (.seq (.ops false [(.op (some 2) (.mov (.c (.b true))))]) .ret) .skip)))) (.seq (.ops false [(.op (some 2) (.mov (.c (.b false))))]) .ret))
abbrev k_schema_Reserved : SC := (.seq (.ops false [(.op (some 2) (.mov (.c (.b false))))]) k_schema_Reserved_3)
abbrev k_schema_tail_0 : SC := (.ops false [(.op (some 3) (.mov (.t 0))), (.op (some 4) (.call 72 [(.t 3)])), (.op (some 5) (.mov (.t 4))), (.grp 5 false [⟨(some 6), (.mov (.t 0))⟩, ⟨(some 7), (.bin .leq false (.c (.v (.int .u8 48))) (.t 6))⟩, ⟨(some 8), (.mov (.t 7))⟩]), (.grp 8 true [⟨(some 9), (.mov (.t 0))⟩, ⟨(some 10), (.bin .leq false (.t 9) (.c (.v (.int .u8 57))))⟩]), (.grp 5 false [⟨(some 11), (.pick (.t 8) (.t 10) (.c (.b false)))⟩]), (.op (some 12) (.pick (.t 5) (.c (.b true)) (.t 11))), (.op (some 13) (.mov (.t 12))), (.grp 13 false [⟨(some 14), (.mov (.t 0))⟩, ⟨(some 15), (.bin .eql false (.t 14) (.c (.v (.int .u8 95))))⟩]), (.op (some 16) (.pick (.t 13) (.c (.b true)) (.t 15))), (.op (some 2) (.mov (.t 16)))])
abbrev k_schema_tail : SC := (.seq (.ops false [(.op (some 2) (.mov (.c (.b false))))]) (.seq k_schema_tail_0 .ret))
abbrev k_schema_Name_0 : SC := (.ops false [(.op (some 4) (.mov (.t 0))), (.op (some 5) (.bin .eql false (.t 4) (.c (.s [])))), (.op (some 6) (.mov (.t 5))), (.grp 6 false [⟨(some 7), (.mov (.t 0))⟩, ⟨(some 8), (.len true (.t 7))⟩, ⟨(some 9), (.bin .gtr false (.t 8) (.c (.i 12)))⟩]), (.op (some 10) (.pick (.t 6) (.c (.b true)) (.t 9))), (.op (some 11) (.mov (.t 10))), (.grp 11 false [⟨(some 12), (.mov (.t 0))⟩, ⟨(some 13), (.ix (.t 12) (.c (.i 0)))⟩, ⟨(some 14), (.call 72 [(.t 13)])⟩, ⟨(some 15), (.un .not (.t 14))⟩]), (.op (some 16) (.pick (.t 11) (.c (.b true)) (.t 15))), (.op (some 17) (.mov (.t 16))), (.grp 17 false [⟨(some 18), (.mov (.t 0))⟩, ⟨(some 19), (.call 73 [(.t 18)])⟩]), (.op (some 20) (.pick (.t 17) (.c (.b true)) (.t 19)))])
abbrev k_schema_Name_1 : SC := (.seq (.seq (.ops false [(.op (some 21) (.mov (.t 3))), (.op (some 22) (.mov (.t 0))), (.op (some 23) (.len true (.t 22))), (.op (some 24) (.bin .lss false (.t 21) (.t 23)))]) (.cond (.t 24) .skip (.exit 0))) (.seq (.block 1 (.seq (.ops false [(.op (some 27) (.mov (.t 0))), (.op (some 28) (.mov (.t 3))), (.op (some 29) (.ix (.t 27) (.t 28))), (.op (some 30) (.call 74 [(.t 29)])), (.op (some 31) (.un .not (.t 30)))]) (.cond (.t 31) (.seq (.ops false [(.op (some 2) (.mov (.c (.b false))))]) .ret) .skip))) (.ops false [(.op (some 25) (.mov (.t 3))), (.op (some 26) (.bin .add false (.t 25) (.c (.i 1)))), (.op (some 3) (.mov (.t 26)))])))
abbrev k_schema_Name_2 : SC := (.block 0 (.loop k_schema_Name_1))
abbrev k_schema_Name_3 : SC := (.seq (.ops false [(.op (some 3) (.mov (.c (.i 1))))]) k_schema_Name_2)
abbrev k_schema_Name_4 : SC := (.seq k_schema_Name_3 (.seq (.ops false [(.op (some 2) (.mov (.c (.b true))))]) .ret))
abbrev k_schema_Name_5 : SC := (.seq (.seq k_schema_Name_0 (.cond (.t 20) (.seq (.ops false [(.op (some 2) (.mov (.c (.b false))))]) .ret) .skip)) k_schema_Name_4)
abbrev k_schema_Name : SC := (.seq (.ops false [(.op (some 2) (.mov (.c (.b false))))]) k_schema_Name_5)
abbrev k_schema_Type_Field_0 : SC := (.block 1 (.seq (.ops false [(.op (some 13) (.mov (.t 11))), (.op (some 14) (.ia 2 (.t 9) (.t 11))), (.op (some 15) (.ld 2 true (.t 14))), (.op (some 7) (.alloc [(.s []), (.v (.int .u8 0))])), (.op (some 6) (.mov (.t 13))), (.op none (.st 2 (.t 7) (.t 15)))]) (.seq (.ops false [(.op (some 16) (.fa 0 (.t 7))), (.op (some 17) (.ld 1 false (.t 16))), (.op (some 18) (.mov (.t 1))), (.op (some 19) (.bin .eql false (.t 17) (.t 18)))]) (.cond (.t 19) (.seq (.ops true [(.op (some 20) (.mov (.t 6))), (.op (some 21) (.fa 1 (.t 7))), (.op (some 22) (.ld 1 false (.t 21))), (.op (some 4) (.mov (.t 20))), (.op (some 5) (.mov (.t 22)))]) .ret) .skip))))
abbrev k_schema_Type_Field_1 : SC := (.seq (.ops false [(.op (some 12) (.bin .lss false (.t 11) (.t 10)))]) (.seq (.cond (.t 12) .skip (.exit 0)) (.seq k_schema_Type_Field_0 (.ops false [(.op (some 23) (.bin .add false (.t 11) (.c (.i 1)))), (.op (some 11) (.mov (.t 23)))]))))
abbrev k_schema_Type_Field_2 : SC := (.block 0 (.loop k_schema_Type_Field_1))
abbrev k_schema_Type_Field_3 : SC := (.seq (.ops false [(.op (some 8) (.fa 1 (.t 2))), (.op (some 9) (.ld 1 false (.t 8))), (.op (some 10) (.len false (.t 9))), (.op (some 11) (.mov (.c (.i 0))))]) k_schema_Type_Field_2)
abbrev k_schema_Type_Field_4 : SC := (.seq k_schema_Type_Field_3 (.seq (.ops false [(.op (some 4) (.mov (.c (.i (-1))))), (.op (some 5) (.mov (.c (.v (.int .u8 0)))))]) .ret))
abbrev k_schema_Type_Field : SC := (.seq (.ops false [(.op (some 2) (.box (.t 0))), (.op (some 4) (.mov (.c (.i 0)))), (.op (some 5) (.mov (.c (.v (.int .u8 0)))))]) k_schema_Type_Field_4)
abbrev k_value_Word_0 : SC := (.seq (.ops false [(.op (some 9) (.bin .eql false (.t 3) (.c (.v (.int .u8 3))))), (.op (some 8) (.mov (.t 9)))]) (.cond (.t 8) (.seq (.ops false [(.op (some 2) (.mov (.c (.s [114, 101, 97, 108]))))]) .ret) (.seq (.ops false [(.op (some 11) (.bin .eql false (.t 3) (.c (.v (.int .u8 4))))), (.op (some 10) (.mov (.t 11)))]) (.cond (.t 10) (.seq (.ops false [(.op (some 2) (.mov (.c (.s [116, 101, 120, 116]))))]) .ret) .skip))))
abbrev k_value_Word_1 : SC := (.seq (.seq (.ops false [(.op (some 3) (.mov (.t 0)))]) (.block 0 (.seq (.ops false [(.op (some 5) (.bin .eql false (.t 3) (.c (.v (.int .u8 1))))), (.op (some 4) (.mov (.t 5)))]) (.cond (.t 4) (.seq (.ops false [(.op (some 2) (.mov (.c (.s [105, 110, 116]))))]) .ret) (.seq (.ops false [(.op (some 7) (.bin .eql false (.t 3) (.c (.v (.int .u8 2))))), (.op (some 6) (.mov (.t 7)))]) (.cond (.t 6) (.seq (.ops false [(.op (some 2) (.mov (.c (.s [102, 108, 97, 103]))))]) .ret) k_value_Word_0)))))) (.seq (.ops false [(.op (some 2) (.mov (.c (.s []))))]) .ret))
abbrev k_value_Word : SC := (.seq (.ops false [(.op (some 2) (.mov (.c (.s []))))]) k_value_Word_1)
abbrev k_schema_Type_check_0 : SC := (.seq (.ops false [(.op (some 36) (.fa 1 (.t 4))), (.op (some 37) (.ld 1 false (.t 36))), (.op (some 38) (.call 60 [(.t 37)])), (.op (some 39) (.bin .eql false (.t 38) (.c (.s [])))), (.op (some 35) (.mov (.t 39)))]) (.cond (.t 35) (.seq (.ops false [(.op (some 2) (.mov (.c (.i 11))))]) .ret) (.seq (.ops false [(.op (some 41) (.mov (.t 5))), (.op (some 42) (.mov (.t 3))), (.op (some 43) (.bin .neq false (.t 41) (.t 42))), (.op (some 40) (.mov (.t 43)))]) (.cond (.t 40) (.seq (.ops false [(.op (some 2) (.mov (.c (.i 21))))]) .ret) .skip))))
abbrev k_schema_Type_check_1 : SC := (.seq (.ops false [(.op (some 24) (.ld 2 true (.t 1))), (.op (some 25) (.fa 0 (.t 4))), (.op (some 26) (.ld 1 false (.t 25))), (.op (some 27) (.call 62 [(.t 24), (.t 26)])), (.op (some 23) (.mov (.t 27))), (.op (some 28) (.ext 0 (.t 23))), (.op (some 29) (.ext 1 (.t 23))), (.op (some 5) (.mov (.t 28))), (.op (some 6) (.mov (.t 29)))]) (.block 2 (.seq (.ops false [(.op (some 31) (.fa 0 (.t 4))), (.op (some 32) (.ld 1 false (.t 31))), (.op (some 33) (.call 61 [(.t 32)])), (.op (some 34) (.un .not (.t 33))), (.op (some 30) (.mov (.t 34)))]) (.cond (.t 30) (.seq (.ops false [(.op (some 2) (.mov (.c (.i 4))))]) .ret) k_schema_Type_check_0))))
abbrev k_schema_Type_check_2 : SC := (.seq (.ops false [(.op (some 19) (.bin .lss false (.t 18) (.t 17)))]) (.seq (.cond (.t 19) .skip (.exit 0)) (.seq (.block 1 (.seq (.ops false [(.op (some 20) (.mov (.t 18))), (.op (some 21) (.ia 2 (.t 16) (.t 18))), (.op (some 22) (.ld 2 true (.t 21))), (.op (some 4) (.alloc [(.s []), (.v (.int .u8 0))])), (.op (some 3) (.mov (.t 20))), (.op none (.st 2 (.t 4) (.t 22)))]) k_schema_Type_check_1)) (.ops false [(.op (some 44) (.bin .add false (.t 18) (.c (.i 1)))), (.op (some 18) (.mov (.t 44)))]))))
abbrev k_schema_Type_check_3 : SC := (.block 0 (.loop k_schema_Type_check_2))
abbrev k_schema_Type_check_4 : SC := (.seq (.ops false [(.op (some 15) (.fa 1 (.t 1))), (.op (some 16) (.ld 1 false (.t 15))), (.op (some 17) (.len false (.t 16))), (.op (some 18) (.mov (.c (.i 0))))]) k_schema_Type_check_3)
abbrev k_schema_Type_check_5 : SC := (.seq k_schema_Type_check_4 (.seq (.ops false [(.op (some 2) (.mov (.c (.i 0))))]) .ret))
abbrev k_schema_Type_check_6 : SC := (.seq (.seq (.ops false [(.op (some 11) (.fa 1 (.t 1))), (.op (some 12) (.ld 1 false (.t 11))), (.op (some 13) (.len false (.t 12))), (.op (some 14) (.bin .gtr false (.t 13) (.c (.i 6))))]) (.cond (.t 14) (.seq (.ops false [(.op (some 2) (.mov (.c (.i 5))))]) .ret) .skip)) k_schema_Type_check_5)
abbrev k_schema_Type_check_7 : SC := (.seq (.seq (.ops false [(.op (some 7) (.fa 0 (.t 1))), (.op (some 8) (.ld 1 false (.t 7))), (.op (some 9) (.call 61 [(.t 8)])), (.op (some 10) (.un .not (.t 9)))]) (.cond (.t 10) (.seq (.ops false [(.op (some 2) (.mov (.c (.i 4))))]) .ret) .skip)) k_schema_Type_check_6)
abbrev k_schema_Type_check : SC := (.seq (.ops false [(.op (some 1) (.box (.t 0))), (.op (some 2) (.mov (.c (.i 0))))]) k_schema_Type_check_7)
abbrev k_slices_Clone_schema_Field : SC := (.seq (.ops false [(.op (some 2) (.mov (.c .emp)))]) (.seq (.seq (.ops false [(.op (some 3) (.mov (.t 0))), (.op (some 4) (.raw (.binOp .eql 77 (.tmp 3) (.const (.slice none 0 0)) 77) 4))]) (.cond (.t 4) (.seq (.ops false [(.op (some 2) (.mov (.c .emp)))]) .ret) .skip)) (.seq (.ops false [(.op (some 5) (.bsl 2 [])), (.op (some 6) (.mov (.t 0))), (.op (some 7) (.app 2 24 (.t 5) (.t 6))), (.op (some 2) (.mov (.t 7)))]) .ret)))
abbrev k_schema_Find_0 : SC := (.seq (.ops false [(.op (some 18) (.mov (.t 1))), (.op (some 19) (.fa 1 (.t 7))), (.op (some 20) (.ld 1 false (.t 19))), (.op (some 21) (.call 63 [(.t 20)])), (.op (some 22) (.build [(.s []), .emp] [(0, (1, (.t 18))), (1, (1, (.t 21)))])), (.op none (.st 2 (.t 4) (.t 22))), (.op (some 5) (.mov (.c (.b true))))]) .ret)
abbrev k_schema_Find_1 : SC := (.seq (.block 1 (.seq (.ops false [(.op (some 12) (.ia 2 (.t 8) (.t 10))), (.op (some 13) (.ld 2 true (.t 12))), (.op (some 7) (.alloc [(.s []), .emp])), (.op none (.st 2 (.t 7) (.t 13)))]) (.seq (.ops false [(.op (some 14) (.fa 0 (.t 7))), (.op (some 15) (.ld 1 false (.t 14))), (.op (some 16) (.mov (.t 1))), (.op (some 17) (.bin .eql false (.t 15) (.t 16)))]) (.cond (.t 17) k_schema_Find_0 .skip)))) (.ops false [(.op (some 23) (.bin .add false (.t 10) (.c (.i 1)))), (.op (some 10) (.mov (.t 23)))]))
abbrev k_schema_Find_2 : SC := (.seq (.ops false [(.op (some 11) (.bin .lss false (.t 10) (.t 9)))]) (.seq (.cond (.t 11) .skip (.exit 0)) k_schema_Find_1))
abbrev k_schema_Find_3 : SC := (.block 0 (.loop k_schema_Find_2))
abbrev k_schema_Find_4 : SC := (.seq (.ops false [(.op (some 8) (.mov (.t 0))), (.op (some 9) (.len false (.t 8))), (.op (some 10) (.mov (.c (.i 0))))]) k_schema_Find_3)
abbrev k_schema_Find_5 : SC := (.seq k_schema_Find_4 (.seq (.ops false [(.op (some 24) (.build [(.s []), .emp] [])), (.op none (.st 2 (.t 4) (.t 24))), (.op (some 5) (.mov (.c (.b false))))]) .ret))
abbrev k_schema_Find : SC := (.seq (.ops false [(.op (some 4) (.alloc [(.s []), .emp])), (.op (some 5) (.mov (.c (.b false))))]) k_schema_Find_5)
abbrev k_schema_Check_0 : SC := (.seq (.ops true [(.op (some 24) (.mov (.t 0))), (.op (some 25) (.mov (.t 3))), (.op (some 26) (.slc false 2 (.t 24) none (some (.t 25)) none)), (.op (some 27) (.fa 0 (.t 4))), (.op (some 28) (.ld 1 false (.t 27))), (.op (some 29) (.call 48 [(.t 26), (.t 28)])), (.op (some 23) (.mov (.t 29))), (.op (some 30) (.ext 0 (.t 23))), (.op (some 31) (.ext 1 (.t 23))), (.op (some 6) (.alloc [(.s []), .emp])), (.op none (.st 2 (.t 6) (.t 30))), (.op (some 7) (.mov (.t 31)))]) (.seq (.ops false [(.op (some 32) (.mov (.t 7)))]) (.cond (.t 32) (.seq (.ops false [(.op (some 2) (.mov (.c (.i 21))))]) .ret) .skip)))
abbrev k_schema_Check_1 : SC := (.block 1 (.seq (.ops false [(.op (some 15) (.mov (.t 13))), (.op (some 16) (.ia 2 (.t 11) (.t 13))), (.op (some 17) (.ld 2 true (.t 16))), (.op (some 4) (.alloc [(.s []), .emp])), (.op (some 3) (.mov (.t 15))), (.op none (.st 2 (.t 4) (.t 17)))]) (.seq (.seq (.ops false [(.op (some 18) (.ld 2 true (.t 4))), (.op (some 19) (.call 47 [(.t 18)])), (.op (some 5) (.mov (.t 19)))]) (.seq (.ops false [(.op (some 20) (.mov (.t 5))), (.op (some 21) (.bin .neq false (.t 20) (.c (.i 0))))]) (.cond (.t 21) (.seq (.ops false [(.op (some 22) (.mov (.t 5))), (.op (some 2) (.mov (.t 22)))]) .ret) .skip))) k_schema_Check_0)))
abbrev k_schema_Check_2 : SC := (.seq (.ops false [(.op (some 14) (.bin .lss false (.t 13) (.t 12)))]) (.seq (.cond (.t 14) .skip (.exit 0)) (.seq k_schema_Check_1 (.ops false [(.op (some 33) (.bin .add false (.t 13) (.c (.i 1)))), (.op (some 13) (.mov (.t 33)))]))))
abbrev k_schema_Check_3 : SC := (.block 0 (.loop k_schema_Check_2))
abbrev k_schema_Check_4 : SC := (.seq (.ops false [(.op (some 11) (.mov (.t 0))), (.op (some 12) (.len false (.t 11))), (.op (some 13) (.mov (.c (.i 0))))]) k_schema_Check_3)
abbrev k_schema_Check_5 : SC := (.seq k_schema_Check_4 (.seq (.ops false [(.op (some 2) (.mov (.c (.i 0))))]) .ret))
abbrev k_schema_Check_6 : SC := (.seq (.seq (.ops false [(.op (some 8) (.mov (.t 0))), (.op (some 9) (.len false (.t 8))), (.op (some 10) (.bin .gtr false (.t 9) (.c (.i 8))))]) (.cond (.t 10) (.seq (.ops false [(.op (some 2) (.mov (.c (.i 5))))]) .ret) .skip)) k_schema_Check_5)
abbrev k_schema_Check : SC := (.seq (.ops false [(.op (some 2) (.mov (.c (.i 0))))]) k_schema_Check_6)
abbrev k_stringslite_IndexByte : SC := (.seq (.ops false [(.op (some 4) (.mov (.c (.i 0))))]) (.seq (.ops false [(.op (some 5) (.mov (.t 0))), (.op (some 6) (.mov (.t 1))), (.op (some 7) (.call 88 [(.t 5), (.t 6)])), (.op (some 4) (.mov (.t 7)))]) .ret))
abbrev k_stringslite_Index_0 : SC := (.seq (.ops false [(.op (some 37) (.mov (.t 5))), (.op (some 38) (.ld 1 false (.c (.v (.pointer (some ⟨0, 0, none⟩)))))), (.op (some 39) (.bin .leq false (.t 37) (.t 38))), (.op (some 40) (.mov (.t 39))), (.grp 40 true [⟨(some 41), (.mov (.t 0))⟩, ⟨(some 42), (.len true (.t 41))⟩, ⟨(some 43), (.bin .leq false (.t 42) (.c (.i 64)))⟩]), (.op (some 44) (.pick (.t 40) (.t 43) (.c (.b false)))), (.op (some 36) (.mov (.t 44)))]) (.cond (.t 36) (.seq (.ops false [(.op (some 45) (.mov (.t 0))), (.op (some 46) (.mov (.t 1))), (.op (some 47) (.call 80 [(.t 45), (.t 46)])), (.op (some 4) (.mov (.t 47)))]) .ret) .skip))
abbrev k_stringslite_Index_1 : SC := (.seq (.ops false [(.op (some 32) (.mov (.t 5))), (.op (some 33) (.mov (.t 0))), (.op (some 34) (.len true (.t 33))), (.op (some 35) (.bin .geq false (.t 32) (.t 34))), (.op (some 31) (.mov (.t 35)))]) (.cond (.t 31) (.seq (.ops false [(.op (some 4) (.mov (.c (.i (-1)))))]) .ret) k_stringslite_Index_0))
abbrev k_stringslite_Index_2 : SC := (.seq (.ops false [(.op (some 25) (.mov (.t 5))), (.op (some 26) (.bin .eql false (.t 25) (.c (.i 1)))), (.op (some 24) (.mov (.t 26)))]) (.cond (.t 24) (.seq (.ops false [(.op (some 27) (.mov (.t 0))), (.op (some 28) (.mov (.t 1))), (.op (some 29) (.ix (.t 28) (.c (.i 0)))), (.op (some 30) (.call 79 [(.t 27), (.t 29)])), (.op (some 4) (.mov (.t 30)))]) .ret) k_stringslite_Index_1))
abbrev k_stringslite_Index_3 : SC := (.seq (.ops false [(.op (some 65) (.mov (.t 0))), (.op (some 66) (.mov (.t 8))), (.op (some 67) (.bin .add false (.t 66) (.c (.i 1)))), (.op (some 68) (.mov (.t 9))), (.op (some 69) (.slc true 0 (.t 65) (some (.t 67)) (some (.t 68)) none)), (.op (some 70) (.mov (.t 6))), (.op (some 71) (.call 79 [(.t 69), (.t 70)])), (.op (some 11) (.mov (.t 71)))]) (.seq (.seq (.ops false [(.op (some 72) (.mov (.t 11))), (.op (some 73) (.bin .lss false (.t 72) (.c (.i 0))))]) (.cond (.t 73) (.seq (.ops false [(.op (some 4) (.mov (.c (.i (-1)))))]) .ret) .skip)) (.ops false [(.op (some 74) (.mov (.t 8))), (.op (some 75) (.mov (.t 11))), (.op (some 76) (.bin .add false (.t 75) (.c (.i 1)))), (.op (some 77) (.bin .add false (.t 74) (.t 76))), (.op (some 8) (.mov (.t 77)))])))
abbrev k_stringslite_Index_4 : SC := (.ops false [(.op (some 78) (.mov (.t 0))), (.op (some 79) (.mov (.t 8))), (.op (some 80) (.bin .add false (.t 79) (.c (.i 1)))), (.op (some 81) (.ix (.t 78) (.t 80))), (.op (some 82) (.mov (.t 7))), (.op (some 83) (.bin .eql false (.t 81) (.t 82))), (.op (some 84) (.mov (.t 83))), (.grp 84 true [⟨(some 85), (.mov (.t 0))⟩, ⟨(some 86), (.mov (.t 8))⟩, ⟨(some 87), (.mov (.t 8))⟩, ⟨(some 88), (.mov (.t 5))⟩, ⟨(some 89), (.bin .add false (.t 87) (.t 88))⟩, ⟨(some 90), (.slc true 0 (.t 85) (some (.t 86)) (some (.t 89)) none)⟩, ⟨(some 91), (.mov (.t 1))⟩, ⟨(some 92), (.bin .eql false (.t 90) (.t 91))⟩]), (.op (some 93) (.pick (.t 84) (.t 92) (.c (.b false))))])
abbrev k_stringslite_Index_5 : SC := (.seq (.ops false [(.op (some 133) (.mov (.t 0))), (.op (some 134) (.mov (.t 8))), (.op (some 135) (.slc true 0 (.t 133) (some (.t 134)) none none)), (.op (some 136) (.mov (.t 1))), (.op (some 137) (.call 82 [(.t 135), (.t 136)])), (.op (some 13) (.mov (.t 137)))]) (.seq (.seq (.ops false [(.op (some 138) (.mov (.t 13))), (.op (some 139) (.bin .lss false (.t 138) (.c (.i 0))))]) (.cond (.t 139) (.seq (.ops false [(.op (some 4) (.mov (.c (.i (-1)))))]) .ret) .skip)) (.seq (.ops false [(.op (some 140) (.mov (.t 8))), (.op (some 141) (.mov (.t 13))), (.op (some 142) (.bin .add false (.t 140) (.t 141))), (.op (some 4) (.mov (.t 142)))]) .ret)))
abbrev k_stringslite_Index_6 : SC := (.ops false [(.op (some 118) (.mov (.t 5))), (.op (some 119) (.ld 1 false (.c (.v (.pointer (some ⟨0, 0, none⟩)))))), (.op (some 120) (.bin .gtr false (.t 118) (.t 119))), (.op (some 121) (.mov (.t 120))), (.grp 121 true [⟨(some 122), (.mov (.t 10))⟩, ⟨(some 123), (.mov (.t 8))⟩, ⟨(some 124), (.bin .shr false (.t 123) (.c (.v (.int .u64 4))))⟩, ⟨(some 125), (.bin .add false (.c (.i 4)) (.t 124))⟩, ⟨(some 126), (.bin .geq false (.t 122) (.t 125))⟩]), (.op (some 127) (.pick (.t 121) (.t 126) (.c (.b false)))), (.op (some 128) (.mov (.t 127))), (.grp 128 true [⟨(some 129), (.mov (.t 8))⟩, ⟨(some 130), (.mov (.t 9))⟩, ⟨(some 131), (.bin .lss false (.t 129) (.t 130))⟩]), (.op (some 132) (.pick (.t 128) (.t 131) (.c (.b false))))])
abbrev k_stringslite_Index_7 : SC := (.seq (.ops false [(.op (some 108) (.mov (.t 0))), (.op (some 109) (.mov (.t 8))), (.op (some 110) (.slc true 0 (.t 108) (some (.t 109)) none none)), (.op (some 111) (.mov (.t 1))), (.op (some 112) (.call 80 [(.t 110), (.t 111)])), (.op (some 12) (.mov (.t 112)))]) (.seq (.seq (.ops false [(.op (some 113) (.mov (.t 12))), (.op (some 114) (.bin .geq false (.t 113) (.c (.i 0))))]) (.cond (.t 114) (.seq (.ops false [(.op (some 115) (.mov (.t 12))), (.op (some 116) (.mov (.t 8))), (.op (some 117) (.bin .add false (.t 115) (.t 116))), (.op (some 4) (.mov (.t 117)))]) .ret) .skip)) (.seq (.ops false [(.op (some 4) (.mov (.c (.i (-1)))))]) .ret)))
abbrev k_stringslite_Index_8 : SC := (.seq (.ops false [(.op (some 99) (.mov (.t 5))), (.op (some 100) (.ld 1 false (.c (.v (.pointer (some ⟨0, 0, none⟩)))))), (.op (some 101) (.bin .leq false (.t 99) (.t 100))), (.op (some 102) (.mov (.t 101))), (.grp 102 true [⟨(some 103), (.mov (.t 10))⟩, ⟨(some 104), (.mov (.t 8))⟩, ⟨(some 105), (.call 81 [(.t 104)])⟩, ⟨(some 106), (.bin .gtr false (.t 103) (.t 105))⟩]), (.op (some 107) (.pick (.t 102) (.t 106) (.c (.b false))))]) (.cond (.t 107) k_stringslite_Index_7 (.seq k_stringslite_Index_6 (.cond (.t 132) k_stringslite_Index_5 .skip))))
abbrev k_stringslite_Index_9 : SC := (.block 2 (.seq (.seq (.ops false [(.op (some 60) (.mov (.t 0))), (.op (some 61) (.mov (.t 8))), (.op (some 62) (.ix (.t 60) (.t 61))), (.op (some 63) (.mov (.t 6))), (.op (some 64) (.bin .neq false (.t 62) (.t 63)))]) (.cond (.t 64) k_stringslite_Index_3 .skip)) (.seq (.seq k_stringslite_Index_4 (.cond (.t 93) (.seq (.ops false [(.op (some 94) (.mov (.t 8))), (.op (some 4) (.mov (.t 94)))]) .ret) .skip)) (.seq (.ops false [(.op (some 95) (.mov (.t 8))), (.op (some 96) (.bin .add false (.t 95) (.c (.i 1)))), (.op (some 8) (.mov (.t 96)))]) (.seq (.ops false [(.op (some 97) (.mov (.t 10))), (.op (some 98) (.bin .add false (.t 97) (.c (.i 1)))), (.op (some 10) (.mov (.t 98)))]) k_stringslite_Index_8)))))
abbrev k_stringslite_Index_10 : SC := (.seq (.seq (.ops false [(.op (some 57) (.mov (.t 8))), (.op (some 58) (.mov (.t 9))), (.op (some 59) (.bin .lss false (.t 57) (.t 58)))]) (.cond (.t 59) .skip (.exit 1))) k_stringslite_Index_9)
abbrev k_stringslite_Index_11 : SC := (.block 1 (.loop k_stringslite_Index_10))
abbrev k_stringslite_Index_12 : SC := (.seq k_stringslite_Index_11 (.seq (.ops false [(.op (some 4) (.mov (.c (.i (-1)))))]) .ret))
abbrev k_stringslite_Index_13 : SC := (.seq (.ops false [(.op (some 10) (.mov (.c (.i 0))))]) k_stringslite_Index_12)
abbrev k_stringslite_Index_14 : SC := (.seq (.ops false [(.op (some 52) (.mov (.t 0))), (.op (some 53) (.len true (.t 52))), (.op (some 54) (.mov (.t 5))), (.op (some 55) (.bin .sub false (.t 53) (.t 54))), (.op (some 56) (.bin .add false (.t 55) (.c (.i 1)))), (.op (some 9) (.mov (.t 56)))]) k_stringslite_Index_13)
abbrev k_stringslite_Index_15 : SC := (.seq (.ops false [(.op (some 8) (.mov (.c (.i 0))))]) k_stringslite_Index_14)
abbrev k_stringslite_Index_16 : SC := (.seq (.ops false [(.op (some 50) (.mov (.t 1))), (.op (some 51) (.ix (.t 50) (.c (.i 1)))), (.op (some 7) (.mov (.t 51)))]) k_stringslite_Index_15)
abbrev k_stringslite_Index_17 : SC := (.seq (.ops false [(.op (some 48) (.mov (.t 1))), (.op (some 49) (.ix (.t 48) (.c (.i 0)))), (.op (some 6) (.mov (.t 49)))]) k_stringslite_Index_16)
abbrev k_stringslite_Index_18 : SC := (.seq (.block 0 (.seq (.ops false [(.op (some 17) (.mov (.t 5))), (.op (some 18) (.bin .eql false (.t 17) (.c (.i 0)))), (.op (some 19) (.mov (.t 18))), (.grp 19 false [⟨(some 20), (.mov (.t 1))⟩, ⟨(some 21), (.mov (.t 0))⟩, ⟨(some 22), (.bin .eql false (.t 20) (.t 21))⟩]), (.op (some 23) (.pick (.t 19) (.c (.b true)) (.t 22))), (.op (some 16) (.mov (.t 23)))]) (.cond (.t 16) (.seq (.ops false [(.op (some 4) (.mov (.c (.i 0))))]) .ret) k_stringslite_Index_2))) k_stringslite_Index_17)
abbrev k_stringslite_Index_19 : SC := (.seq (.ops false [(.op (some 14) (.mov (.t 1))), (.op (some 15) (.len true (.t 14))), (.op (some 5) (.mov (.t 15)))]) k_stringslite_Index_18)
abbrev k_stringslite_Index : SC := (.seq (.ops false [(.op (some 4) (.mov (.c (.i 0))))]) k_stringslite_Index_19)
abbrev k_stringslite_Cut_0 : SC := (.seq (.ops true [(.op (some 13) (.mov (.t 0))), (.op (some 14) (.mov (.t 7))), (.op (some 15) (.slc true 0 (.t 13) none (some (.t 14)) none)), (.op (some 16) (.mov (.t 0))), (.op (some 17) (.mov (.t 7))), (.op (some 18) (.mov (.t 1))), (.op (some 19) (.len true (.t 18))), (.op (some 20) (.bin .add false (.t 17) (.t 19))), (.op (some 21) (.slc true 0 (.t 16) (some (.t 20)) none none)), (.op (some 4) (.mov (.t 15))), (.op (some 5) (.mov (.t 21))), (.op (some 6) (.mov (.c (.b true))))]) .ret)
abbrev k_stringslite_Cut : SC := (.seq (.ops false [(.op (some 4) (.mov (.c (.s [])))), (.op (some 5) (.mov (.c (.s [])))), (.op (some 6) (.mov (.c (.b false))))]) (.seq (.seq (.ops false [(.op (some 8) (.mov (.t 0))), (.op (some 9) (.mov (.t 1))), (.op (some 10) (.call 68 [(.t 8), (.t 9)])), (.op (some 7) (.mov (.t 10)))]) (.seq (.ops false [(.op (some 11) (.mov (.t 7))), (.op (some 12) (.bin .geq false (.t 11) (.c (.i 0))))]) (.cond (.t 12) k_stringslite_Cut_0 .skip))) (.seq (.ops false [(.op (some 22) (.mov (.t 0))), (.op (some 4) (.mov (.t 22))), (.op (some 5) (.mov (.c (.s [])))), (.op (some 6) (.mov (.c (.b false))))]) .ret)))
abbrev k_strings_Cut : SC := (.seq (.ops false [(.op (some 4) (.mov (.c (.s [])))), (.op (some 5) (.mov (.c (.s [])))), (.op (some 6) (.mov (.c (.b false))))]) (.seq (.ops false [(.op (some 7) (.mov (.t 0))), (.op (some 8) (.mov (.t 1))), (.op (some 9) (.call 58 [(.t 7), (.t 8)])), (.op (some 10) (.ext 0 (.t 9))), (.op (some 11) (.ext 1 (.t 9))), (.op (some 12) (.ext 2 (.t 9))), (.op (some 4) (.mov (.t 10))), (.op (some 5) (.mov (.t 11))), (.op (some 6) (.mov (.t 12)))]) .ret))
abbrev k_strings_Count_0 : SC := (.seq (.seq (.ops false [(.op (some 23) (.mov (.t 6))), (.op (some 24) (.bin .eql false (.t 23) (.c (.i (-1)))))]) (.cond (.t 24) (.seq (.ops false [(.op (some 25) (.mov (.t 5))), (.op (some 4) (.mov (.t 25)))]) .ret) .skip)) (.seq (.ops false [(.op (some 26) (.mov (.t 5))), (.op (some 27) (.bin .add false (.t 26) (.c (.i 1)))), (.op (some 5) (.mov (.t 27)))]) (.ops false [(.op (some 28) (.mov (.t 0))), (.op (some 29) (.mov (.t 6))), (.op (some 30) (.mov (.t 1))), (.op (some 31) (.len true (.t 30))), (.op (some 32) (.bin .add false (.t 29) (.t 31))), (.op (some 33) (.slc true 0 (.t 28) (some (.t 32)) none none)), (.op (some 0) (.mov (.t 33)))])))
abbrev k_strings_Count_1 : SC := (.block 1 (.seq (.ops false [(.op (some 20) (.mov (.t 0))), (.op (some 21) (.mov (.t 1))), (.op (some 22) (.call 71 [(.t 20), (.t 21)])), (.op (some 6) (.mov (.t 22)))]) k_strings_Count_0))
abbrev k_strings_Count_2 : SC := (.block 0 (.loop k_strings_Count_1))
abbrev k_strings_Count_3 : SC := (.seq (.ops false [(.op (some 5) (.mov (.c (.i 0))))]) k_strings_Count_2)
abbrev k_strings_Count_4 : SC := (.seq (.seq (.ops false [(.op (some 13) (.mov (.t 1))), (.op (some 14) (.len true (.t 13))), (.op (some 15) (.bin .eql false (.t 14) (.c (.i 1))))]) (.cond (.t 15) (.seq (.ops false [(.op (some 16) (.mov (.t 0))), (.op (some 17) (.mov (.t 1))), (.op (some 18) (.ix (.t 17) (.c (.i 0)))), (.op (some 19) (.call 85 [(.t 16), (.t 18)])), (.op (some 4) (.mov (.t 19)))]) .ret) .skip)) k_strings_Count_3)
abbrev k_strings_Count_5 : SC := (.seq (.seq (.ops false [(.op (some 7) (.mov (.t 1))), (.op (some 8) (.len true (.t 7))), (.op (some 9) (.bin .eql false (.t 8) (.c (.i 0))))]) (.cond (.t 9) (.seq (.ops false [(.op (some 10) (.mov (.t 0))), (.op (some 11) (.call 83 [(.t 10)])), (.op (some 12) (.bin .add false (.t 11) (.c (.i 1)))), (.op (some 4) (.mov (.t 12)))]) .ret) .skip)) k_strings_Count_4)
abbrev k_strings_Count : SC := (.seq (.ops false [(.op (some 4) (.mov (.c (.i 0))))]) k_strings_Count_5)
abbrev k_strings_Index : SC := (.seq (.ops false [(.op (some 4) (.mov (.c (.i 0))))]) (.seq (.ops false [(.op (some 5) (.mov (.t 0))), (.op (some 6) (.mov (.t 1))), (.op (some 7) (.call 68 [(.t 5), (.t 6)])), (.op (some 4) (.mov (.t 7)))]) .ret))
abbrev k_strings_genSplit_0 : SC := (.seq (.ops false [(.op (some 42) (.mov (.t 9))), (.op (some 43) (.mov (.t 10))), (.op (some 44) (.mov (.t 0))), (.op (some 45) (.mov (.t 11))), (.op (some 46) (.mov (.t 2))), (.op (some 47) (.bin .add false (.t 45) (.t 46))), (.op (some 48) (.slc true 0 (.t 44) none (some (.t 47)) none)), (.op (some 49) (.ia 1 (.t 42) (.t 43))), (.op none (.st 1 (.t 49) (.t 48)))]) (.seq (.ops false [(.op (some 50) (.mov (.t 0))), (.op (some 51) (.mov (.t 11))), (.op (some 52) (.mov (.t 1))), (.op (some 53) (.len true (.t 52))), (.op (some 54) (.bin .add false (.t 51) (.t 53))), (.op (some 55) (.slc true 0 (.t 50) (some (.t 54)) none none)), (.op (some 0) (.mov (.t 55)))]) (.ops false [(.op (some 56) (.mov (.t 10))), (.op (some 57) (.bin .add false (.t 56) (.c (.i 1)))), (.op (some 10) (.mov (.t 57)))])))
abbrev k_strings_genSplit_1 : SC := (.seq (.seq (.ops false [(.op (some 34) (.mov (.t 10))), (.op (some 35) (.mov (.t 3))), (.op (some 36) (.bin .lss false (.t 34) (.t 35)))]) (.cond (.t 36) .skip (.exit 0))) (.block 1 (.seq (.ops false [(.op (some 37) (.mov (.t 0))), (.op (some 38) (.mov (.t 1))), (.op (some 39) (.call 71 [(.t 37), (.t 38)])), (.op (some 11) (.mov (.t 39)))]) (.seq (.seq (.ops false [(.op (some 40) (.mov (.t 11))), (.op (some 41) (.bin .lss false (.t 40) (.c (.i 0))))]) (.cond (.t 41) (.exit 0) .skip)) k_strings_genSplit_0))))
abbrev k_strings_genSplit_2 : SC := (.block 0 (.loop k_strings_genSplit_1))
abbrev k_strings_genSplit_3 : SC := (.seq k_strings_genSplit_2 (.seq (.ops false [(.op (some 58) (.mov (.t 9))), (.op (some 59) (.mov (.t 10))), (.op (some 60) (.mov (.t 0))), (.op (some 61) (.ia 1 (.t 58) (.t 59))), (.op none (.st 1 (.t 61) (.t 60)))]) (.seq (.ops false [(.op (some 62) (.mov (.t 9))), (.op (some 63) (.mov (.t 10))), (.op (some 64) (.bin .add false (.t 63) (.c (.i 1)))), (.op (some 65) (.slc false 1 (.t 62) none (some (.t 64)) none)), (.op (some 8) (.mov (.t 65)))]) .ret)))
abbrev k_strings_genSplit_4 : SC := (.seq (.ops false [(.op (some 10) (.mov (.c (.i 0))))]) k_strings_genSplit_3)
abbrev k_strings_genSplit_5 : SC := (.seq (.ops false [(.op (some 32) (.mov (.t 3))), (.op (some 33) (.bin .sub false (.t 32) (.c (.i 1)))), (.op (some 3) (.mov (.t 33)))]) k_strings_genSplit_4)
abbrev k_strings_genSplit_6 : SC := (.seq (.ops false [(.op (some 30) (.mov (.t 3))), (.op (some 31) (.raw (.makeSlice 103 (.tmp 30) (.tmp 30)) 103)), (.op (some 9) (.mov (.t 31)))]) k_strings_genSplit_5)
abbrev k_strings_genSplit_7 : SC := (.seq (.ops false [(.op (some 25) (.mov (.t 3))), (.op (some 26) (.mov (.t 0))), (.op (some 27) (.len true (.t 26))), (.op (some 28) (.bin .add false (.t 27) (.c (.i 1)))), (.op (some 29) (.raw (.call ⟨(.builtin .min), #[(.tmp 25), (.tmp 28)], #[3, 3]⟩) 3)), (.op (some 3) (.mov (.t 29)))]) k_strings_genSplit_6)
abbrev k_strings_genSplit_8 : SC := (.seq (.seq (.ops false [(.op (some 19) (.mov (.t 3))), (.op (some 20) (.bin .lss false (.t 19) (.c (.i 0))))]) (.cond (.t 20) (.ops false [(.op (some 21) (.mov (.t 0))), (.op (some 22) (.mov (.t 1))), (.op (some 23) (.call 70 [(.t 21), (.t 22)])), (.op (some 24) (.bin .add false (.t 23) (.c (.i 1)))), (.op (some 3) (.mov (.t 24)))]) .skip)) k_strings_genSplit_7)
abbrev k_strings_genSplit_9 : SC := (.seq (.seq (.ops false [(.op (some 14) (.mov (.t 1))), (.op (some 15) (.bin .eql false (.t 14) (.c (.s []))))]) (.cond (.t 15) (.seq (.ops false [(.op (some 16) (.mov (.t 0))), (.op (some 17) (.mov (.t 3))), (.op (some 18) (.call 69 [(.t 16), (.t 17)])), (.op (some 8) (.mov (.t 18)))]) .ret) .skip)) k_strings_genSplit_8)
abbrev k_strings_genSplit_10 : SC := (.seq (.seq (.ops false [(.op (some 12) (.mov (.t 3))), (.op (some 13) (.bin .eql false (.t 12) (.c (.i 0))))]) (.cond (.t 13) (.seq (.ops false [(.op (some 8) (.mov (.c .emp)))]) .ret) .skip)) k_strings_genSplit_9)
abbrev k_strings_genSplit : SC := (.seq (.ops false [(.op (some 8) (.mov (.c .emp)))]) k_strings_genSplit_10)
abbrev k_strings_Split : SC := (.seq (.ops false [(.op (some 4) (.mov (.c .emp)))]) (.seq (.ops false [(.op (some 5) (.mov (.t 0))), (.op (some 6) (.mov (.t 1))), (.op (some 7) (.call 59 [(.t 5), (.t 6), (.c (.i 0)), (.c (.i (-1)))])), (.op (some 4) (.mov (.t 7)))]) .ret))
abbrev k_schema_kindOf_0 : SC := (.seq (.seq (.ops false [(.op (some 4) (.mov (.t 3))), (.op (some 5) (.bin .leq false (.t 4) (.c (.v (.int .u8 4)))))]) (.cond (.t 5) .skip (.exit 0))) (.seq (.block 1 (.seq (.ops false [(.op (some 8) (.mov (.t 3))), (.op (some 9) (.call 60 [(.t 8)])), (.op (some 10) (.mov (.t 0))), (.op (some 11) (.bin .eql false (.t 9) (.t 10)))]) (.cond (.t 11) (.seq (.ops false [(.op (some 12) (.mov (.t 3))), (.op (some 2) (.mov (.t 12)))]) .ret) .skip))) (.ops false [(.op (some 6) (.mov (.t 3))), (.op (some 7) (.bin .add false (.t 6) (.c (.v (.int .u8 1))))), (.op (some 3) (.mov (.t 7)))])))
abbrev k_schema_kindOf_1 : SC := (.block 0 (.loop k_schema_kindOf_0))
abbrev k_schema_kindOf_2 : SC := (.seq (.ops false [(.op (some 3) (.mov (.c (.v (.int .u8 1)))))]) k_schema_kindOf_1)
abbrev k_schema_kindOf_3 : SC := (.seq k_schema_kindOf_2 (.seq (.ops false [(.op (some 2) (.mov (.c (.v (.int .u8 0)))))]) .ret))
abbrev k_schema_kindOf : SC := (.seq (.ops false [(.op (some 2) (.mov (.c (.v (.int .u8 0)))))]) k_schema_kindOf_3)
abbrev k_schema_Parse_0 : SC := (.seq (.seq (.ops false [(.op (some 47) (.mov (.t 15))), (.op (some 48) (.un .not (.t 47))), (.op (some 49) (.mov (.t 48))), (.grp 49 false [⟨(some 50), (.mov (.t 16))⟩, ⟨(some 51), (.bin .eql false (.t 50) (.c (.v (.int .u8 0))))⟩]), (.op (some 52) (.pick (.t 49) (.c (.b true)) (.t 51)))]) (.cond (.t 52) (.seq (.ops false [(.op (some 5) (.mov (.c (.b false))))]) (.exit 0)) .skip)) (.ops false [(.op (some 53) (.fa 1 (.t 10))), (.op (some 54) (.ld 1 false (.t 53))), (.op (some 55) (.mov (.t 13))), (.op (some 56) (.mov (.t 16))), (.op (some 57) (.build [(.s []), (.v (.int .u8 0))] [(0, (1, (.t 55))), (1, (1, (.t 56)))])), (.op (some 58) (.bsl 2 [(.t 57)])), (.op (some 59) (.app 2 24 (.t 54) (.t 58))), (.op (some 60) (.fa 1 (.t 10))), (.op none (.st 1 (.t 60) (.t 59)))]))
abbrev k_schema_Parse_1 : SC := (.block 3 (.seq (.ops false [(.op (some 37) (.ia 1 (.t 33) (.t 35))), (.op (some 38) (.ld 1 false (.t 37))), (.op (some 12) (.mov (.t 38)))]) (.seq (.ops false [(.op (some 40) (.mov (.t 12))), (.op (some 41) (.call 44 [(.t 40), (.c (.s [58]))])), (.op (some 39) (.mov (.t 41))), (.op (some 42) (.ext 0 (.t 39))), (.op (some 43) (.ext 1 (.t 39))), (.op (some 44) (.ext 2 (.t 39))), (.op (some 13) (.mov (.t 42))), (.op (some 14) (.mov (.t 43))), (.op (some 15) (.mov (.t 44)))]) (.seq (.ops false [(.op (some 45) (.mov (.t 14))), (.op (some 46) (.call 46 [(.t 45)])), (.op (some 16) (.mov (.t 46)))]) k_schema_Parse_0))))
abbrev k_schema_Parse_2 : SC := (.seq (.ops false [(.op (some 36) (.bin .lss false (.t 35) (.t 34)))]) (.seq (.cond (.t 36) .skip (.exit 2)) (.seq k_schema_Parse_1 (.ops false [(.op (some 61) (.bin .add false (.t 35) (.c (.i 1)))), (.op (some 35) (.mov (.t 61)))]))))
abbrev k_schema_Parse_3 : SC := (.block 2 (.loop k_schema_Parse_2))
abbrev k_schema_Parse_4 : SC := (.seq (.ops false [(.op (some 32) (.mov (.t 9))), (.op (some 33) (.slc false 1 (.t 32) (some (.c (.i 1))) none none)), (.op (some 34) (.len false (.t 33))), (.op (some 35) (.mov (.c (.i 0))))]) k_schema_Parse_3)
abbrev k_schema_Parse_5 : SC := (.seq k_schema_Parse_4 (.seq (.seq (.ops false [(.op (some 62) (.mov (.t 8))), (.op (some 63) (.un .not (.t 62)))]) (.cond (.t 63) (.seq (.ops false [(.op (some 5) (.mov (.c (.b false))))]) (.exit 0)) .skip)) (.ops false [(.op (some 64) (.mov (.t 4))), (.op (some 65) (.ld 2 true (.t 10))), (.op (some 66) (.bsl 2 [(.t 65)])), (.op (some 67) (.app 2 40 (.t 64) (.t 66))), (.op (some 68) (.mov (.t 7))), (.op (some 4) (.mov (.t 67))), (.op (some 0) (.mov (.t 68)))])))
abbrev k_schema_Parse_6 : SC := (.seq (.ops false [(.op (some 28) (.mov (.t 9))), (.op (some 29) (.ia 1 (.t 28) (.c (.i 0)))), (.op (some 30) (.ld 1 false (.t 29))), (.op (some 31) (.build [(.s []), .emp] [(0, (1, (.t 30)))])), (.op (some 10) (.alloc [(.s []), .emp])), (.op none (.st 2 (.t 10) (.t 31)))]) k_schema_Parse_5)
abbrev k_schema_Parse_7 : SC := (.seq (.ops false [(.op (some 26) (.mov (.t 6))), (.op (some 27) (.call 45 [(.t 26), (.c (.s [32]))])), (.op (some 9) (.mov (.t 27)))]) k_schema_Parse_6)
abbrev k_schema_Parse_8 : SC := (.block 1 (.seq (.ops false [(.op (some 21) (.mov (.t 0))), (.op (some 22) (.call 44 [(.t 21), (.c (.s [10]))])), (.op (some 20) (.mov (.t 22))), (.op (some 23) (.ext 0 (.t 20))), (.op (some 24) (.ext 1 (.t 20))), (.op (some 25) (.ext 2 (.t 20))), (.op (some 6) (.mov (.t 23))), (.op (some 7) (.mov (.t 24))), (.op (some 8) (.mov (.t 25)))]) k_schema_Parse_7))
abbrev k_schema_Parse_9 : SC := (.seq (.seq (.ops false [(.op (some 18) (.mov (.t 0))), (.op (some 19) (.bin .neq false (.t 18) (.c (.s []))))]) (.cond (.t 19) .skip (.exit 0))) k_schema_Parse_8)
abbrev k_schema_Parse_10 : SC := (.seq (.seq (.ops false [(.op (some 71) (.mov (.t 4))), (.op (some 72) (.call 27 [(.t 71)])), (.op (some 17) (.mov (.t 72)))]) (.seq (.ops false [(.op (some 73) (.mov (.t 17))), (.op (some 74) (.bin .neq false (.t 73) (.c (.i 0))))]) (.cond (.t 74) (.seq (.ops false [(.op (some 75) (.mov (.t 17))), (.op (some 2) (.mov (.c .emp))), (.op (some 3) (.mov (.t 75)))]) .ret) .skip))) (.seq (.ops false [(.op (some 76) (.mov (.t 4))), (.op (some 2) (.mov (.t 76))), (.op (some 3) (.mov (.c (.i 0))))]) .ret))
abbrev k_schema_Parse_11 : SC := (.block 0 (.loop k_schema_Parse_9))
abbrev k_schema_Parse_12 : SC := (.seq k_schema_Parse_11 (.seq (.seq (.ops false [(.op (some 69) (.mov (.t 5))), (.op (some 70) (.un .not (.t 69)))]) (.cond (.t 70) (.seq (.ops false [(.op (some 2) (.mov (.c .emp))), (.op (some 3) (.mov (.c (.i 4))))]) .ret) .skip)) k_schema_Parse_10))
abbrev k_schema_Parse_13 : SC := (.seq .skip k_schema_Parse_12)
abbrev k_schema_Parse_14 : SC := (.seq (.ops false [(.op (some 5) (.mov (.c (.b true))))]) k_schema_Parse_13)
abbrev k_schema_Parse_15 : SC := (.scope (.seq (.ops false [(.op (some 4) (.mov (.c .emp)))]) k_schema_Parse_14))
abbrev k_schema_Parse : SC := (.seq (.ops false [(.op (some 2) (.mov (.c .emp))), (.op (some 3) (.mov (.c (.i 0))))]) k_schema_Parse_15)
abbrev k_slices_Clone_schema_Type : SC := (.seq (.ops false [(.op (some 2) (.mov (.c .emp)))]) (.seq (.seq (.ops false [(.op (some 3) (.mov (.t 0))), (.op (some 4) (.raw (.binOp .eql 26 (.tmp 3) (.const (.slice none 0 0)) 26) 4))]) (.cond (.t 4) (.seq (.ops false [(.op (some 2) (.mov (.c .emp)))]) .ret) .skip)) (.seq (.ops false [(.op (some 5) (.bsl 2 [])), (.op (some 6) (.mov (.t 0))), (.op (some 7) (.app 2 40 (.t 5) (.t 6))), (.op (some 2) (.mov (.t 7)))]) .ret)))
abbrev k_gate_New_0 : SC := (.ops false [(.op (some 8) (.mov (.t 0))), (.op (some 9) (.call 27 [(.t 8)])), (.op (some 10) (.bin .neq false (.t 9) (.c (.i 0)))), (.op (some 11) (.mov (.t 10))), (.grp 11 false [⟨(some 12), (.mov (.t 1))⟩, ⟨(some 13), (.bin .lss false (.t 12) (.c (.i 1)))⟩]), (.op (some 14) (.pick (.t 11) (.c (.b true)) (.t 13))), (.op (some 15) (.mov (.t 14))), (.grp 15 false [⟨(some 16), (.mov (.t 1))⟩, ⟨(some 17), (.bin .gtr false (.t 16) (.c (.i 16)))⟩]), (.op (some 18) (.pick (.t 15) (.c (.b true)) (.t 17)))])
abbrev k_gate_New_1 : SC := (.seq (.ops false [(.op (some 29) (.bin .lss false (.t 28) (.t 27)))]) (.seq (.cond (.t 29) .skip (.exit 0)) (.seq (.block 1 (.seq (.ops false [(.op (some 30) (.mov (.t 28))), (.op (some 7) (.mov (.t 30)))]) (.ops false [(.op (some 31) (.fa 1 (.t 6))), (.op (some 32) (.ld 1 false (.t 31))), (.op (some 33) (.mov (.t 7))), (.op (some 34) (.ia 3 (.t 32) (.t 33))), (.op (some 35) (.fa 1 (.t 34))), (.op none (.st 1 (.t 35) (.c (.i (-1)))))]))) (.ops false [(.op (some 36) (.bin .add false (.t 28) (.c (.i 1)))), (.op (some 28) (.mov (.t 36)))]))))
abbrev k_gate_New_2 : SC := (.block 0 (.loop k_gate_New_1))
abbrev k_gate_New_3 : SC := (.seq (.ops false [(.op (some 25) (.fa 1 (.t 6))), (.op (some 26) (.ld 1 false (.t 25))), (.op (some 27) (.len false (.t 26))), (.op (some 28) (.mov (.c (.i 0))))]) k_gate_New_2)
abbrev k_gate_New_4 : SC := (.seq k_gate_New_3 (.seq (.ops false [(.op (some 37) (.ld 2 true (.t 6))), (.op none (.st 2 (.t 4) (.t 37))), (.op (some 5) (.mov (.c (.i 0))))]) .ret))
abbrev k_gate_New_5 : SC := (.seq (.ops true [(.op (some 20) (.mov (.t 0))), (.op (some 21) (.call 28 [(.t 20)])), (.op (some 22) (.mov (.t 1))), (.op (some 23) (.raw (.makeSlice 27 (.tmp 22) (.tmp 22)) 27)), (.op (some 24) (.build [.emp, .emp] [(0, (1, (.t 21))), (1, (1, (.t 23)))])), (.op (some 6) (.alloc [.emp, .emp])), (.op none (.st 2 (.t 6) (.t 24)))]) k_gate_New_4)
abbrev k_gate_New_6 : SC := (.seq (.seq k_gate_New_0 (.cond (.t 18) (.seq (.ops false [(.op (some 19) (.build [.emp, .emp] [])), (.op none (.st 2 (.t 4) (.t 19))), (.op (some 5) (.mov (.c (.i 2))))]) .ret) .skip)) k_gate_New_5)
abbrev k_gate_New : SC := (.seq (.ops false [(.op (some 4) (.alloc [.emp, .emp])), (.op (some 5) (.mov (.c (.i 0))))]) k_gate_New_6)
abbrev k_gate_Gate_open_0 : SC := (.seq (.ops false [(.op (some 18) (.fa 1 (.t 2))), (.op (some 19) (.ld 1 false (.t 18))), (.op (some 20) (.mov (.t 1))), (.op (some 21) (.ia 3 (.t 19) (.t 20))), (.op (some 22) (.fa 2 (.t 21))), (.op (some 23) (.ld 1 false (.t 22))), (.op (some 17) (.mov (.t 23)))]) (.cond (.t 17) (.seq (.ops false [(.op (some 24) (.build [(.i 0), (.i 0), (.b false)] [])), (.op none (.st 3 (.t 4) (.t 24))), (.op (some 5) (.mov (.c (.i 20))))]) .ret) .skip))
abbrev k_gate_Gate_open_1 : SC := (.block 0 (.seq (.ops false [(.op (some 7) (.mov (.t 1))), (.op (some 8) (.bin .lss false (.t 7) (.c (.i 0)))), (.op (some 9) (.mov (.t 8))), (.grp 9 false [⟨(some 10), (.mov (.t 1))⟩, ⟨(some 11), (.fa 1 (.t 2))⟩, ⟨(some 12), (.ld 1 false (.t 11))⟩, ⟨(some 13), (.len false (.t 12))⟩, ⟨(some 14), (.bin .geq false (.t 10) (.t 13))⟩]), (.op (some 15) (.pick (.t 9) (.c (.b true)) (.t 14))), (.op (some 6) (.mov (.t 15)))]) (.cond (.t 6) (.seq (.ops false [(.op (some 16) (.build [(.i 0), (.i 0), (.b false)] [])), (.op none (.st 3 (.t 4) (.t 16))), (.op (some 5) (.mov (.c (.i 17))))]) .ret) k_gate_Gate_open_0)))
abbrev k_gate_Gate_open : SC := (.seq (.ops false [(.op (some 2) (.box (.t 0))), (.op (some 4) (.alloc [(.i 0), (.i 0), (.b false)])), (.op (some 5) (.mov (.c (.i 0))))]) (.seq k_gate_Gate_open_1 (.seq (.ops false [(.op (some 25) (.fa 1 (.t 2))), (.op (some 26) (.ld 1 false (.t 25))), (.op (some 27) (.mov (.t 1))), (.op (some 28) (.ia 3 (.t 26) (.t 27))), (.op (some 29) (.ld 3 true (.t 28))), (.op none (.st 3 (.t 4) (.t 29))), (.op (some 5) (.mov (.c (.i 0))))]) .ret)))
abbrev k_slices_Clone_gate_Source : SC := (.seq (.ops false [(.op (some 2) (.mov (.c .emp)))]) (.seq (.seq (.ops false [(.op (some 3) (.mov (.t 0))), (.op (some 4) (.raw (.binOp .eql 27 (.tmp 3) (.const (.slice none 0 0)) 27) 4))]) (.cond (.t 4) (.seq (.ops false [(.op (some 2) (.mov (.c .emp)))]) .ret) .skip)) (.seq (.ops false [(.op (some 5) (.bsl 3 [])), (.op (some 6) (.mov (.t 0))), (.op (some 7) (.app 3 24 (.t 5) (.t 6))), (.op (some 2) (.mov (.t 7)))]) .ret)))
abbrev k_gate_Gate_Advance_L1 : SC := (.ops false [(.op (some 3) (.mov (.t 0))), (.op (some 4) (.ld 1 false (.t 1))), (.op (some 5) (.raw (.nilCheck (.tmp 3)) 0)), (.op (some 6) (.fa 0 (.t 5))), (.op none (.st 1 (.t 6) (.t 4)))])
abbrev k_gate_Gate_turn_0 : SC := (.seq (.ops false [(.op (some 7) (.fa 1 (.t 3))), (.op (some 8) (.ld 1 false (.t 7))), (.op (some 9) (.call 54 [(.t 8)])), (.op (some 10) (.fa 1 (.t 3))), (.op none (.st 1 (.t 10) (.t 9)))]) (.seq (.ops false [(.op (some 11) (.mov (.t 2))), (.op (some 12) (.fa 1 (.t 3))), (.op (some 13) (.ld 1 false (.t 12))), (.op (some 14) (.mov (.t 1))), (.op (some 15) (.ia 3 (.t 13) (.t 14))), (.op (some 16) (.callv (.t 11) [(.t 15)]))]) (.seq (.ops false [(.op (some 17) (.ld 2 true (.t 3))), (.op none (.st 2 (.t 6) (.t 17)))]) .ret)))
abbrev k_gate_Gate_turn : SC := (.seq (.ops false [(.op (some 3) (.box (.t 0))), (.op (some 6) (.alloc [.emp, .emp]))]) k_gate_Gate_turn_0)
abbrev k_gate_Gate_Advance_0 : SC := (.seq (.ops false [(.op (some 20) (.ld 1 false (.t 5))), (.op (some 21) (.fa 0 (.t 8))), (.op (some 22) (.ld 1 false (.t 21))), (.op (some 23) (.bin .lss false (.t 20) (.t 22))), (.op (some 24) (.mov (.t 23))), (.grp 24 false [⟨(some 25), (.ld 1 false (.t 5))⟩, ⟨(some 26), (.bin .gtr false (.t 25) (.c (.i 1099511627776)))⟩]), (.op (some 27) (.pick (.t 24) (.c (.b true)) (.t 26)))]) (.cond (.t 27) (.seq (.ops false [(.op (some 28) (.ld 2 true (.t 3))), (.op none (.st 2 (.t 6) (.t 28))), (.op (some 7) (.mov (.c (.i 8))))]) .ret) .skip))
abbrev k_gate_Gate_Advance_1 : SC := (.seq (.seq (.ops false [(.op (some 16) (.mov (.t 9))), (.op (some 17) (.bin .neq false (.t 16) (.c (.i 0))))]) (.cond (.t 17) (.seq (.ops false [(.op (some 18) (.ld 2 true (.t 3))), (.op (some 19) (.mov (.t 9))), (.op none (.st 2 (.t 6) (.t 18))), (.op (some 7) (.mov (.t 19)))]) .ret) .skip)) (.seq k_gate_Gate_Advance_0 (.seq (.ops false [(.op (some 29) (.ld 2 true (.t 3))), (.op (some 30) (.mov (.t 1))), (.op (some 31) (.fnv (.func 41) [] [(.t 5)])), (.op (some 32) (.call 38 [(.t 29), (.t 30), (.t 31)])), (.op none (.st 2 (.t 6) (.t 32))), (.op (some 7) (.mov (.c (.i 0))))]) .ret)))
abbrev k_gate_Gate_Advance : SC := (.seq (.ops false [(.op (some 3) (.box (.t 0))), (.op (some 5) (.box (.t 2))), (.op (some 6) (.alloc [.emp, .emp])), (.op (some 7) (.mov (.c (.i 0))))]) (.seq (.ops false [(.op (some 11) (.ld 2 true (.t 3))), (.op (some 12) (.mov (.t 1))), (.op (some 13) (.call 35 [(.t 11), (.t 12)])), (.op (some 10) (.mov (.t 13))), (.op (some 14) (.ext 0 (.t 10))), (.op (some 15) (.ext 1 (.t 10))), (.op (some 8) (.alloc [(.i 0), (.i 0), (.b false)])), (.op none (.st 3 (.t 8) (.t 14))), (.op (some 9) (.mov (.t 15)))]) k_gate_Gate_Advance_1))
abbrev k_event_Event_ID : SC := (.seq (.ops false [(.op (some 1) (.box (.t 0))), (.op (some 2) (.alloc [(.i 0), (.i 0), (.i 0)]))]) (.seq (.ops false [(.op (some 3) (.fa 0 (.t 1))), (.op (some 4) (.ld 1 false (.t 3))), (.op (some 5) (.fa 1 (.t 1))), (.op (some 6) (.ld 1 false (.t 5))), (.op (some 7) (.fa 2 (.t 1))), (.op (some 8) (.ld 1 false (.t 7))), (.op (some 9) (.build [(.i 0), (.i 0), (.i 0)] [(0, (1, (.t 4))), (1, (1, (.t 6))), (2, (1, (.t 8)))])), (.op none (.st 3 (.t 2) (.t 9)))]) .ret))
abbrev k_event_ID_may_0 : SC := (.ops false [(.op (some 3) (.fa 0 (.t 1))), (.op (some 4) (.ld 1 false (.t 3))), (.op (some 5) (.bin .geq false (.t 4) (.c (.i 0)))), (.op (some 6) (.mov (.t 5))), (.grp 6 true [⟨(some 7), (.fa 0 (.t 1))⟩, ⟨(some 8), (.ld 1 false (.t 7))⟩, ⟨(some 9), (.bin .leq false (.t 8) (.c (.i 1099511627776)))⟩]), (.op (some 10) (.pick (.t 6) (.t 9) (.c (.b false)))), (.op (some 11) (.mov (.t 10))), (.grp 11 true [⟨(some 12), (.fa 1 (.t 1))⟩, ⟨(some 13), (.ld 1 false (.t 12))⟩, ⟨(some 14), (.bin .geq false (.t 13) (.c (.i 0)))⟩]), (.op (some 15) (.pick (.t 11) (.t 14) (.c (.b false)))), (.op (some 16) (.mov (.t 15))), (.grp 16 true [⟨(some 17), (.fa 1 (.t 1))⟩, ⟨(some 18), (.ld 1 false (.t 17))⟩, ⟨(some 19), (.bin .lss false (.t 18) (.c (.i 16)))⟩]), (.op (some 20) (.pick (.t 16) (.t 19) (.c (.b false)))), (.op (some 21) (.mov (.t 20))), (.grp 21 true [⟨(some 22), (.fa 2 (.t 1))⟩, ⟨(some 23), (.ld 1 false (.t 22))⟩, ⟨(some 24), (.bin .geq false (.t 23) (.c (.i 0)))⟩]), (.op (some 25) (.pick (.t 21) (.t 24) (.c (.b false)))), (.op (some 26) (.mov (.t 25))), (.grp 26 true [⟨(some 27), (.fa 2 (.t 1))⟩, ⟨(some 28), (.ld 1 false (.t 27))⟩, ⟨(some 29), (.bin .leq false (.t 28) (.c (.i 1099511627776)))⟩]), (.op (some 30) (.pick (.t 26) (.t 29) (.c (.b false)))), (.op (some 2) (.mov (.t 30)))])
abbrev k_event_ID_may : SC := (.seq (.ops false [(.op (some 1) (.box (.t 0))), (.op (some 2) (.mov (.c (.b false))))]) (.seq k_event_ID_may_0 .ret))
abbrev k_value_core_0 : SC := (.seq (.ops false [(.op (some 21) (.bin .eql false (.t 4) (.c (.v (.int .u8 4))))), (.op (some 20) (.mov (.t 21)))]) (.cond (.t 20) (.seq (.ops false [(.op (some 22) (.fa 3 (.t 1))), (.op (some 23) (.ld 1 false (.t 22))), (.op (some 24) (.mki 136 (.t 23))), (.op (some 2) (.mov (.t 24)))]) .ret) .skip))
abbrev k_value_core_1 : SC := (.seq (.ops false [(.op (some 16) (.bin .eql false (.t 4) (.c (.v (.int .u8 3))))), (.op (some 15) (.mov (.t 16)))]) (.cond (.t 15) (.seq (.ops false [(.op (some 17) (.fa 2 (.t 1))), (.op (some 18) (.ld 1 false (.t 17))), (.op (some 19) (.mki 134 (.t 18))), (.op (some 2) (.mov (.t 19)))]) .ret) k_value_core_0))
abbrev k_value_core_2 : SC := (.seq (.ops false [(.op (some 11) (.bin .eql false (.t 4) (.c (.v (.int .u8 2))))), (.op (some 10) (.mov (.t 11)))]) (.cond (.t 10) (.seq (.ops false [(.op (some 12) (.fa 1 (.t 1))), (.op (some 13) (.ld 1 false (.t 12))), (.op (some 14) (.mki 133 (.t 13))), (.op (some 2) (.mov (.t 14)))]) .ret) k_value_core_1))
abbrev k_value_core : SC := (.seq (.ops false [(.op (some 1) (.box (.t 0))), (.op (some 2) (.mov (.c (.v (.nilIface)))))]) (.seq (.seq (.ops false [(.op (some 3) (.fa 0 (.t 1))), (.op (some 4) (.ld 1 false (.t 3)))]) (.block 0 (.seq (.ops false [(.op (some 6) (.bin .eql false (.t 4) (.c (.v (.int .u8 1))))), (.op (some 5) (.mov (.t 6)))]) (.cond (.t 5) (.seq (.ops false [(.op (some 7) (.fa 1 (.t 1))), (.op (some 8) (.ld 1 false (.t 7))), (.op (some 9) (.mki 132 (.t 8))), (.op (some 2) (.mov (.t 9)))]) .ret) k_value_core_2)))) (.seq (.ops false [(.op (some 2) (.mov (.c (.v (.nilIface)))))]) .ret)))
abbrev k_real_of : SC := (.seq (.ops false [(.op (some 2) (.mov (.c (.v (.float .f64 0)))))]) (.seq (.ops false [(.op (some 3) (.mov (.t 0))), (.op (some 4) (.call 91 [(.t 3)])), (.op (some 2) (.mov (.t 4)))]) .ret))
abbrev k_real_Clean : SC := (.seq (.ops false [(.op (some 2) (.mov (.c (.v (.int .u64 0)))))]) (.seq (.seq (.ops false [(.op (some 4) (.mov (.t 0))), (.op (some 5) (.call 86 [(.t 4)])), (.op (some 3) (.mov (.t 5)))]) (.seq (.ops false [(.op (some 6) (.mov (.t 3))), (.op (some 7) (.mov (.t 3))), (.op (some 8) (.raw (.binOp .neq 144 (.tmp 6) (.tmp 7) 144) 4))]) (.cond (.t 8) (.seq (.ops false [(.op (some 2) (.mov (.c (.v (.int .u64 9221120237041090560)))))]) .ret) .skip))) (.seq (.ops false [(.op (some 9) (.mov (.t 0))), (.op (some 2) (.mov (.t 9)))]) .ret)))
abbrev k_value_double_whole : SC := (.seq (.ops false [(.op (some 2) (.alloc [(.v (.int .u8 0)), (.i 0), (.v (.int .u64 0)), (.s [])]))]) (.seq (.ops false [(.op (some 3) (.mov (.t 0))), (.op (some 4) (.build [(.v (.int .u8 0)), (.i 0), (.v (.int .u64 0)), (.s [])] [(0, (1, (.c (.v (.int .u8 3))))), (2, (1, (.t 3)))])), (.op none (.st 4 (.t 2) (.t 4)))]) .ret))
abbrev k_value_flag_whole : SC := (.seq (.ops false [(.op (some 2) (.alloc [(.v (.int .u8 0)), (.i 0), (.v (.int .u64 0)), (.s [])]))]) (.seq (.ops false [(.op (some 3) (.mov (.t 0))), (.op (some 4) (.build [(.v (.int .u8 0)), (.i 0), (.v (.int .u64 0)), (.s [])] [(0, (1, (.c (.v (.int .u8 2))))), (1, (1, (.t 3)))])), (.op none (.st 4 (.t 2) (.t 4)))]) .ret))
abbrev k_value_number_whole : SC := (.seq (.ops false [(.op (some 2) (.alloc [(.v (.int .u8 0)), (.i 0), (.v (.int .u64 0)), (.s [])]))]) (.seq (.ops false [(.op (some 3) (.mov (.t 0))), (.op (some 4) (.build [(.v (.int .u8 0)), (.i 0), (.v (.int .u64 0)), (.s [])] [(0, (1, (.c (.v (.int .u8 1))))), (1, (1, (.t 3)))])), (.op none (.st 4 (.t 2) (.t 4)))]) .ret))
abbrev k_value_words_whole : SC := (.seq (.ops false [(.op (some 2) (.alloc [(.v (.int .u8 0)), (.i 0), (.v (.int .u64 0)), (.s [])]))]) (.seq (.ops false [(.op (some 3) (.mov (.t 0))), (.op (some 4) (.build [(.v (.int .u8 0)), (.i 0), (.v (.int .u64 0)), (.s [])] [(0, (1, (.c (.v (.int .u8 4))))), (3, (1, (.t 3)))])), (.op none (.st 4 (.t 2) (.t 4)))]) .ret))
abbrev k_value_Check_0 : SC := (.seq (.ops false [(.op (some 6) (.mov (.t 32)))]) (.seq (.ops false [(.op (some 33) (.mov (.t 6))), (.op (some 34) (.call 77 [(.t 33)])), (.op (some 35) (.mov (.t 6))), (.op (some 36) (.bin .neq false (.t 34) (.t 35)))]) (.cond (.t 36) (.seq (.ops false [(.op (some 2) (.mov (.c (.i 4))))]) .ret) .skip)))
abbrev k_value_Check_1 : SC := (.seq (.ops false [(.op (some 37) (.raw (.typeAssert (.tmp 11) 130 136 true) 0)), (.op (some 38) (.ext 1 (.t 37))), (.op (some 39) (.ext 0 (.t 37)))]) (.cond (.t 38) (.seq (.ops false [(.op (some 7) (.mov (.t 39)))]) (.seq (.ops false [(.op (some 40) (.mov (.t 7))), (.op (some 41) (.len true (.t 40))), (.op (some 42) (.bin .gtr false (.t 41) (.c (.i 24))))]) (.cond (.t 42) (.seq (.ops false [(.op (some 2) (.mov (.c (.i 5))))]) .ret) .skip))) (.seq (.ops false [(.op (some 8) (.mov (.t 11)))]) (.seq (.ops false [(.op (some 2) (.mov (.c (.i 11))))]) .ret))))
abbrev k_value_Check_2 : SC := (.seq (.ops false [(.op (some 5) (.mov (.t 23)))]) (.seq (.ops false [(.op (some 24) (.mov (.t 5))), (.op (some 25) (.bin .neq false (.t 24) (.c (.i 0)))), (.op (some 26) (.mov (.t 25))), (.grp 26 true [⟨(some 27), (.mov (.t 5))⟩, ⟨(some 28), (.bin .neq false (.t 27) (.c (.i 1)))⟩]), (.op (some 29) (.pick (.t 26) (.t 28) (.c (.b false))))]) (.cond (.t 29) (.seq (.ops false [(.op (some 2) (.mov (.c (.i 8))))]) .ret) .skip)))
abbrev k_value_Check_3 : SC := (.seq (.ops false [(.op (some 4) (.mov (.t 14)))]) (.seq (.ops false [(.op (some 15) (.mov (.t 4))), (.op (some 16) (.bin .lss false (.t 15) (.c (.i (-4611686018427387904))))), (.op (some 17) (.mov (.t 16))), (.grp 17 false [⟨(some 18), (.mov (.t 4))⟩, ⟨(some 19), (.bin .gtr false (.t 18) (.c (.i 4611686018427387904)))⟩]), (.op (some 20) (.pick (.t 17) (.c (.b true)) (.t 19)))]) (.cond (.t 20) (.seq (.ops false [(.op (some 2) (.mov (.c (.i 8))))]) .ret) .skip)))
abbrev k_value_Check_4 : SC := (.seq (.ops false [(.op (some 21) (.raw (.typeAssert (.tmp 11) 130 133 true) 0)), (.op (some 22) (.ext 1 (.t 21))), (.op (some 23) (.ext 0 (.t 21)))]) (.cond (.t 22) k_value_Check_2 (.seq (.ops false [(.op (some 30) (.raw (.typeAssert (.tmp 11) 130 134 true) 0)), (.op (some 31) (.ext 1 (.t 30))), (.op (some 32) (.ext 0 (.t 30)))]) (.cond (.t 31) k_value_Check_0 k_value_Check_1))))
abbrev k_value_Check_5 : SC := (.seq (.seq (.ops false [(.op (some 11) (.mov (.t 3)))]) (.block 0 (.seq (.ops false [(.op (some 12) (.raw (.typeAssert (.tmp 11) 130 132 true) 0)), (.op (some 13) (.ext 1 (.t 12))), (.op (some 14) (.ext 0 (.t 12)))]) (.cond (.t 13) k_value_Check_3 k_value_Check_4)))) (.seq (.seq (.ops true [(.op (some 43) (.mov (.t 3))), (.op (some 44) (.raw (.call ⟨(.invoke (.tmp 43) "telltale/value.whole"), #[], #[]⟩) 110)), (.op (some 45) (.ld 4 true (.t 1))), (.op (some 46) (.eqs true [(0, (.i .u8)), (1, (.i .i64)), (2, (.i .u64)), (3, .s)] (.t 44) (.t 45)))]) (.cond (.t 46) (.seq (.ops false [(.op (some 2) (.mov (.c (.i 2))))]) .ret) .skip)) (.seq (.ops false [(.op (some 2) (.mov (.c (.i 0))))]) .ret)))
abbrev k_value_Check : SC := (.seq (.ops false [(.op (some 1) (.box (.t 0))), (.op (some 2) (.mov (.c (.i 0))))]) (.seq (.ops false [(.op (some 9) (.ld 4 true (.t 1))), (.op (some 10) (.call 76 [(.t 9)])), (.op (some 3) (.mov (.t 10)))]) k_value_Check_5))
abbrev k_schema_Fits_0 : SC := (.seq (.seq (.ops false [(.op (some 21) (.ld 4 true (.t 6))), (.op (some 22) (.call 66 [(.t 21)])), (.op (some 7) (.mov (.t 22)))]) (.seq (.ops false [(.op (some 23) (.mov (.t 7))), (.op (some 24) (.bin .neq false (.t 23) (.c (.i 0))))]) (.cond (.t 24) (.seq (.ops false [(.op (some 25) (.mov (.t 7))), (.op (some 4) (.mov (.t 25)))]) .ret) .skip))) (.seq (.ops true [(.op (some 26) (.fa 0 (.t 6))), (.op (some 27) (.ld 1 false (.t 26))), (.op (some 28) (.fa 1 (.t 2))), (.op (some 29) (.ld 1 false (.t 28))), (.op (some 30) (.mov (.t 5))), (.op (some 31) (.ia 2 (.t 29) (.t 30))), (.op (some 32) (.fa 1 (.t 31))), (.op (some 33) (.ld 1 false (.t 32))), (.op (some 34) (.bin .neq false (.t 27) (.t 33)))]) (.cond (.t 34) (.seq (.ops false [(.op (some 4) (.mov (.c (.i 19))))]) .ret) .skip)))
abbrev k_schema_Fits_1 : SC := (.seq (.ops false [(.op (some 17) (.bin .lss false (.t 16) (.t 15)))]) (.seq (.cond (.t 17) .skip (.exit 0)) (.seq (.block 1 (.seq (.ops false [(.op (some 18) (.mov (.t 16))), (.op (some 19) (.ia 4 (.t 14) (.t 16))), (.op (some 20) (.ld 4 true (.t 19))), (.op (some 6) (.alloc [(.v (.int .u8 0)), (.i 0), (.v (.int .u64 0)), (.s [])])), (.op (some 5) (.mov (.t 18))), (.op none (.st 4 (.t 6) (.t 20)))]) k_schema_Fits_0)) (.ops false [(.op (some 35) (.bin .add false (.t 16) (.c (.i 1)))), (.op (some 16) (.mov (.t 35)))]))))
abbrev k_schema_Fits_2 : SC := (.block 0 (.loop k_schema_Fits_1))
abbrev k_schema_Fits_3 : SC := (.seq (.ops false [(.op (some 14) (.mov (.t 1))), (.op (some 15) (.len false (.t 14))), (.op (some 16) (.mov (.c (.i 0))))]) k_schema_Fits_2)
abbrev k_schema_Fits_4 : SC := (.seq k_schema_Fits_3 (.seq (.ops false [(.op (some 4) (.mov (.c (.i 0))))]) .ret))
abbrev k_schema_Fits_5 : SC := (.seq (.seq (.ops false [(.op (some 8) (.mov (.t 1))), (.op (some 9) (.len false (.t 8))), (.op (some 10) (.fa 1 (.t 2))), (.op (some 11) (.ld 1 false (.t 10))), (.op (some 12) (.len false (.t 11))), (.op (some 13) (.bin .neq false (.t 9) (.t 12)))]) (.cond (.t 13) (.seq (.ops false [(.op (some 4) (.mov (.c (.i 5))))]) .ret) .skip)) k_schema_Fits_4)
abbrev k_schema_Fits : SC := (.seq (.ops false [(.op (some 2) (.box (.t 0))), (.op (some 4) (.mov (.c (.i 0))))]) k_schema_Fits_5)
abbrev k_event_Check_0 : SC := (.seq (.ops false [(.op (some 15) (.mov (.t 0))), (.op (some 16) (.fa 3 (.t 3))), (.op (some 17) (.ld 1 false (.t 16))), (.op (some 18) (.call 48 [(.t 15), (.t 17)])), (.op (some 14) (.mov (.t 18))), (.op (some 19) (.ext 0 (.t 14))), (.op (some 20) (.ext 1 (.t 14))), (.op (some 5) (.alloc [(.s []), .emp])), (.op none (.st 2 (.t 5) (.t 19))), (.op (some 6) (.mov (.t 20)))]) (.seq (.seq (.ops false [(.op (some 21) (.mov (.t 6))), (.op (some 22) (.un .not (.t 21)))]) (.cond (.t 22) (.seq (.ops false [(.op (some 4) (.mov (.c (.i 6))))]) .ret) .skip)) (.seq (.ops false [(.op (some 23) (.ld 2 true (.t 5))), (.op (some 24) (.fa 4 (.t 3))), (.op (some 25) (.ld 1 false (.t 24))), (.op (some 26) (.call 51 [(.t 23), (.t 25)])), (.op (some 4) (.mov (.t 26)))]) .ret)))
abbrev k_event_Check_1 : SC := (.seq (.seq (.ops false [(.op (some 7) (.mov (.t 0))), (.op (some 8) (.call 27 [(.t 7)])), (.op (some 9) (.bin .neq false (.t 8) (.c (.i 0))))]) (.cond (.t 9) (.seq (.ops false [(.op (some 4) (.mov (.c (.i 2))))]) .ret) .skip)) (.seq (.seq (.ops false [(.op (some 10) (.ld 5 true (.t 3))), (.op (some 11) (.call 25 [(.t 10)])), (.op (some 12) (.call 50 [(.t 11)])), (.op (some 13) (.un .not (.t 12)))]) (.cond (.t 13) (.seq (.ops false [(.op (some 4) (.mov (.c (.i 8))))]) .ret) .skip)) k_event_Check_0))
abbrev k_event_Check : SC := (.seq (.ops false [(.op (some 3) (.box (.t 1))), (.op (some 4) (.mov (.c (.i 0))))]) k_event_Check_1)
abbrev k_gate_Gate_Why_0 : SC := (.seq (.ops false [(.op (some 33) (.fa 2 (.t 3))), (.op (some 34) (.ld 1 false (.t 33))), (.op (some 35) (.fa 1 (.t 6))), (.op (some 36) (.ld 1 false (.t 35))), (.op (some 37) (.bin .leq false (.t 34) (.t 36))), (.op (some 32) (.mov (.t 37)))]) (.cond (.t 32) (.seq (.ops false [(.op (some 4) (.mov (.c (.i 12))))]) .ret) .skip))
abbrev k_gate_Gate_Why_1 : SC := (.seq (.ops false [(.op (some 27) (.fa 0 (.t 3))), (.op (some 28) (.ld 1 false (.t 27))), (.op (some 29) (.fa 0 (.t 6))), (.op (some 30) (.ld 1 false (.t 29))), (.op (some 31) (.bin .lss false (.t 28) (.t 30))), (.op (some 26) (.mov (.t 31)))]) (.cond (.t 26) (.seq (.ops false [(.op (some 4) (.mov (.c (.i 13))))]) .ret) k_gate_Gate_Why_0))
abbrev k_gate_Gate_Why_2 : SC := (.seq (.ops false [(.op (some 16) (.ld 2 true (.t 2))), (.op (some 17) (.fa 1 (.t 3))), (.op (some 18) (.ld 1 false (.t 17))), (.op (some 19) (.call 35 [(.t 16), (.t 18)])), (.op (some 15) (.mov (.t 19))), (.op (some 20) (.ext 0 (.t 15))), (.op (some 21) (.ext 1 (.t 15))), (.op (some 6) (.alloc [(.i 0), (.i 0), (.b false)])), (.op none (.st 3 (.t 6) (.t 20))), (.op (some 7) (.mov (.t 21)))]) (.seq (.block 0 (.seq (.ops false [(.op (some 23) (.mov (.t 7))), (.op (some 24) (.bin .neq false (.t 23) (.c (.i 0)))), (.op (some 22) (.mov (.t 24)))]) (.cond (.t 22) (.seq (.ops false [(.op (some 25) (.mov (.t 7))), (.op (some 4) (.mov (.t 25)))]) .ret) k_gate_Gate_Why_1))) (.seq (.ops false [(.op (some 4) (.mov (.c (.i 0))))]) .ret)))
abbrev k_gate_Gate_Why : SC := (.seq (.ops false [(.op (some 2) (.box (.t 0))), (.op (some 3) (.box (.t 1))), (.op (some 4) (.mov (.c (.i 0))))]) (.seq (.seq (.ops false [(.op (some 8) (.fa 0 (.t 2))), (.op (some 9) (.ld 1 false (.t 8))), (.op (some 10) (.ld 5 true (.t 3))), (.op (some 11) (.call 34 [(.t 9), (.t 10)])), (.op (some 5) (.mov (.t 11)))]) (.seq (.ops false [(.op (some 12) (.mov (.t 5))), (.op (some 13) (.bin .neq false (.t 12) (.c (.i 0))))]) (.cond (.t 13) (.seq (.ops false [(.op (some 14) (.mov (.t 5))), (.op (some 4) (.mov (.t 14)))]) .ret) .skip))) k_gate_Gate_Why_2))
abbrev k_gate_Gate_Accept_L1 : SC := (.ops false [(.op (some 3) (.mov (.t 0))), (.op (some 4) (.fa 2 (.t 1))), (.op (some 5) (.ld 1 false (.t 4))), (.op (some 6) (.raw (.nilCheck (.tmp 3)) 0)), (.op (some 7) (.fa 1 (.t 6))), (.op none (.st 1 (.t 7) (.t 5)))])
abbrev k_gate_Gate_Accept_0 : SC := (.seq (.seq (.ops false [(.op (some 7) (.ld 2 true (.t 2))), (.op (some 8) (.ld 5 true (.t 3))), (.op (some 9) (.call 14 [(.t 7), (.t 8)])), (.op (some 6) (.mov (.t 9)))]) (.seq (.ops false [(.op (some 10) (.mov (.t 6))), (.op (some 11) (.bin .neq false (.t 10) (.c (.i 0))))]) (.cond (.t 11) (.seq (.ops false [(.op (some 12) (.ld 2 true (.t 2))), (.op (some 13) (.mov (.t 6))), (.op none (.st 2 (.t 4) (.t 12))), (.op (some 5) (.mov (.t 13)))]) .ret) .skip))) (.seq (.ops false [(.op (some 14) (.ld 2 true (.t 2))), (.op (some 15) (.fa 1 (.t 3))), (.op (some 16) (.ld 1 false (.t 15))), (.op (some 17) (.fnv (.func 39) [] [(.t 3)])), (.op (some 18) (.call 38 [(.t 14), (.t 16), (.t 17)])), (.op none (.st 2 (.t 4) (.t 18))), (.op (some 5) (.mov (.c (.i 0))))]) .ret))
abbrev k_gate_Gate_Accept : SC := (.seq (.ops false [(.op (some 2) (.box (.t 0))), (.op (some 3) (.box (.t 1))), (.op (some 4) (.alloc [.emp, .emp])), (.op (some 5) (.mov (.c (.i 0))))]) k_gate_Gate_Accept_0)
abbrev k_gate_Gate_Close_L1 : SC := (.ops false [(.op (some 2) (.mov (.t 0))), (.op (some 3) (.raw (.nilCheck (.tmp 2)) 0)), (.op (some 4) (.fa 2 (.t 3))), (.op none (.st 1 (.t 4) (.c (.b true))))])
abbrev k_gate_Gate_Close_0 : SC := (.seq (.ops false [(.op (some 9) (.ld 2 true (.t 2))), (.op (some 10) (.mov (.t 1))), (.op (some 11) (.call 35 [(.t 9), (.t 10)])), (.op (some 8) (.mov (.t 11))), (.op (some 12) (.ext 0 (.t 8))), (.op (some 13) (.ext 1 (.t 8))), (.op (some 6) (.alloc [(.i 0), (.i 0), (.b false)])), (.op none (.st 3 (.t 6) (.t 12))), (.op (some 7) (.mov (.t 13)))]) (.seq (.ops false [(.op (some 14) (.mov (.t 7))), (.op (some 15) (.bin .neq false (.t 14) (.c (.i 0))))]) (.cond (.t 15) (.seq (.ops false [(.op (some 16) (.ld 2 true (.t 2))), (.op (some 17) (.mov (.t 7))), (.op none (.st 2 (.t 4) (.t 16))), (.op (some 5) (.mov (.t 17)))]) .ret) .skip)))
abbrev k_gate_Gate_Close : SC := (.seq (.ops false [(.op (some 2) (.box (.t 0))), (.op (some 4) (.alloc [.emp, .emp])), (.op (some 5) (.mov (.c (.i 0))))]) (.seq k_gate_Gate_Close_0 (.seq (.ops false [(.op (some 18) (.ld 2 true (.t 2))), (.op (some 19) (.mov (.t 1))), (.op (some 20) (.call 38 [(.t 18), (.t 19), (.c (.fn (.func 42) [] []))])), (.op none (.st 2 (.t 4) (.t 20))), (.op (some 5) (.mov (.c (.i 0))))]) .ret)))
abbrev k_gate_Gate_Least_0 : SC := (.block 1 (.seq (.ops false [(.op (some 11) (.ia 3 (.t 7) (.t 9))), (.op (some 12) (.ld 3 true (.t 11))), (.op (some 5) (.alloc [(.i 0), (.i 0), (.b false)])), (.op none (.st 3 (.t 5) (.t 12)))]) (.seq (.ops false [(.op (some 13) (.fa 2 (.t 5))), (.op (some 14) (.ld 1 false (.t 13))), (.op (some 15) (.un .not (.t 14)))]) (.cond (.t 15) (.ops false [(.op (some 16) (.mov (.t 3))), (.op (some 17) (.fa 0 (.t 5))), (.op (some 18) (.ld 1 false (.t 17))), (.op (some 19) (.raw (.call ⟨(.builtin .min), #[(.tmp 16), (.tmp 18)], #[3, 3]⟩) 3)), (.op (some 3) (.mov (.t 19)))]) .skip))))
abbrev k_gate_Gate_Least_1 : SC := (.seq (.ops false [(.op (some 10) (.bin .lss false (.t 9) (.t 8)))]) (.seq (.cond (.t 10) .skip (.exit 0)) (.seq k_gate_Gate_Least_0 (.ops false [(.op (some 20) (.bin .add false (.t 9) (.c (.i 1)))), (.op (some 9) (.mov (.t 20)))]))))
abbrev k_gate_Gate_Least_2 : SC := (.block 0 (.loop k_gate_Gate_Least_1))
abbrev k_gate_Gate_Least_3 : SC := (.seq (.ops false [(.op (some 6) (.fa 1 (.t 1))), (.op (some 7) (.ld 1 false (.t 6))), (.op (some 8) (.len false (.t 7))), (.op (some 9) (.mov (.c (.i 0))))]) k_gate_Gate_Least_2)
abbrev k_gate_Gate_Least_4 : SC := (.seq k_gate_Gate_Least_3 (.seq (.ops false [(.op (some 21) (.mov (.t 3))), (.op (some 2) (.mov (.t 21)))]) .ret))
abbrev k_gate_Gate_Least_5 : SC := (.seq (.ops false [(.op (some 3) (.mov (.c (.i 1099511627777))))]) k_gate_Gate_Least_4)
abbrev k_gate_Gate_Least : SC := (.seq (.ops false [(.op (some 1) (.box (.t 0))), (.op (some 2) (.mov (.c (.i 0))))]) k_gate_Gate_Least_5)
abbrev k_slices_Equal_schema_Field_0 : SC := (.block 1 (.seq (.ops false [(.op (some 15) (.mov (.t 13))), (.op (some 5) (.mov (.t 15)))]) (.seq (.ops true [(.op (some 16) (.mov (.t 0))), (.op (some 17) (.mov (.t 5))), (.op (some 18) (.ia 2 (.t 16) (.t 17))), (.op (some 19) (.ld 2 true (.t 18))), (.op (some 20) (.mov (.t 1))), (.op (some 21) (.mov (.t 5))), (.op (some 22) (.ia 2 (.t 20) (.t 21))), (.op (some 23) (.ld 2 true (.t 22))), (.op (some 24) (.eqs true [(0, .s), (1, (.i .u8))] (.t 19) (.t 23)))]) (.cond (.t 24) (.seq (.ops false [(.op (some 4) (.mov (.c (.b false))))]) .ret) .skip))))
abbrev k_slices_Equal_schema_Field_1 : SC := (.seq (.ops false [(.op (some 14) (.bin .lss false (.t 13) (.t 12)))]) (.seq (.cond (.t 14) .skip (.exit 0)) (.seq k_slices_Equal_schema_Field_0 (.ops false [(.op (some 25) (.bin .add false (.t 13) (.c (.i 1)))), (.op (some 13) (.mov (.t 25)))]))))
abbrev k_slices_Equal_schema_Field_2 : SC := (.block 0 (.loop k_slices_Equal_schema_Field_1))
abbrev k_slices_Equal_schema_Field_3 : SC := (.seq (.ops false [(.op (some 11) (.mov (.t 0))), (.op (some 12) (.len false (.t 11))), (.op (some 13) (.mov (.c (.i 0))))]) k_slices_Equal_schema_Field_2)
abbrev k_slices_Equal_schema_Field_4 : SC := (.seq k_slices_Equal_schema_Field_3 (.seq (.ops false [(.op (some 4) (.mov (.c (.b true))))]) .ret))
abbrev k_slices_Equal_schema_Field_5 : SC := (.seq (.seq (.ops false [(.op (some 6) (.mov (.t 0))), (.op (some 7) (.len false (.t 6))), (.op (some 8) (.mov (.t 1))), (.op (some 9) (.len false (.t 8))), (.op (some 10) (.bin .neq false (.t 7) (.t 9)))]) (.cond (.t 10) (.seq (.ops false [(.op (some 4) (.mov (.c (.b false))))]) .ret) .skip)) k_slices_Equal_schema_Field_4)
abbrev k_slices_Equal_schema_Field : SC := (.seq (.ops false [(.op (some 4) (.mov (.c (.b false))))]) k_slices_Equal_schema_Field_5)
abbrev k_schema_Same_L1_0 : SC := (.ops false [(.op (some 5) (.fa 0 (.t 2))), (.op (some 6) (.ld 1 false (.t 5))), (.op (some 7) (.fa 0 (.t 3))), (.op (some 8) (.ld 1 false (.t 7))), (.op (some 9) (.bin .eql false (.t 6) (.t 8))), (.op (some 10) (.mov (.t 9))), (.grp 10 true [⟨(some 11), (.fa 1 (.t 2))⟩, ⟨(some 12), (.ld 1 false (.t 11))⟩, ⟨(some 13), (.fa 1 (.t 3))⟩, ⟨(some 14), (.ld 1 false (.t 13))⟩, ⟨(some 15), (.call 57 [(.t 12), (.t 14)])⟩]), (.op (some 16) (.pick (.t 10) (.t 15) (.c (.b false)))), (.op (some 4) (.mov (.t 16)))])
abbrev k_schema_Same_L1 : SC := (.seq (.ops false [(.op (some 2) (.box (.t 0))), (.op (some 3) (.box (.t 1))), (.op (some 4) (.mov (.c (.b false))))]) (.seq k_schema_Same_L1_0 .ret))
abbrev k_slices_EqualFunc_schema_Type_0 : SC := (.seq (.ops false [(.op (some 22) (.mov (.t 1))), (.op (some 23) (.mov (.t 7))), (.op (some 24) (.ia 2 (.t 22) (.t 23))), (.op (some 25) (.ld 2 true (.t 24))), (.op (some 9) (.alloc [(.s []), .emp])), (.op none (.st 2 (.t 9) (.t 25)))]) (.seq (.ops false [(.op (some 26) (.mov (.t 2))), (.op (some 27) (.ld 2 true (.t 8))), (.op (some 28) (.ld 2 true (.t 9))), (.op (some 29) (.callv (.t 26) [(.t 27), (.t 28)])), (.op (some 30) (.un .not (.t 29)))]) (.cond (.t 30) (.seq (.ops false [(.op (some 6) (.mov (.c (.b false))))]) .ret) .skip)))
abbrev k_slices_EqualFunc_schema_Type_1 : SC := (.seq (.ops false [(.op (some 18) (.bin .lss false (.t 17) (.t 16)))]) (.seq (.cond (.t 18) .skip (.exit 0)) (.seq (.block 1 (.seq (.ops false [(.op (some 19) (.mov (.t 17))), (.op (some 20) (.ia 2 (.t 15) (.t 17))), (.op (some 21) (.ld 2 true (.t 20))), (.op (some 8) (.alloc [(.s []), .emp])), (.op (some 7) (.mov (.t 19))), (.op none (.st 2 (.t 8) (.t 21)))]) k_slices_EqualFunc_schema_Type_0)) (.ops false [(.op (some 31) (.bin .add false (.t 17) (.c (.i 1)))), (.op (some 17) (.mov (.t 31)))]))))
abbrev k_slices_EqualFunc_schema_Type_2 : SC := (.block 0 (.loop k_slices_EqualFunc_schema_Type_1))
abbrev k_slices_EqualFunc_schema_Type_3 : SC := (.seq (.ops false [(.op (some 15) (.mov (.t 0))), (.op (some 16) (.len false (.t 15))), (.op (some 17) (.mov (.c (.i 0))))]) k_slices_EqualFunc_schema_Type_2)
abbrev k_slices_EqualFunc_schema_Type_4 : SC := (.seq k_slices_EqualFunc_schema_Type_3 (.seq (.ops false [(.op (some 6) (.mov (.c (.b true))))]) .ret))
abbrev k_slices_EqualFunc_schema_Type_5 : SC := (.seq (.seq (.ops false [(.op (some 10) (.mov (.t 0))), (.op (some 11) (.len false (.t 10))), (.op (some 12) (.mov (.t 1))), (.op (some 13) (.len false (.t 12))), (.op (some 14) (.bin .neq false (.t 11) (.t 13)))]) (.cond (.t 14) (.seq (.ops false [(.op (some 6) (.mov (.c (.b false))))]) .ret) .skip)) k_slices_EqualFunc_schema_Type_4)
abbrev k_slices_EqualFunc_schema_Type : SC := (.seq (.ops false [(.op (some 6) (.mov (.c (.b false))))]) k_slices_EqualFunc_schema_Type_5)
abbrev k_schema_Same : SC := (.seq (.ops false [(.op (some 4) (.mov (.c (.b false))))]) (.seq (.ops false [(.op (some 5) (.mov (.t 0))), (.op (some 6) (.mov (.t 1))), (.op (some 7) (.call 55 [(.t 5), (.t 6), (.c (.fn (.func 56) [] []))])), (.op (some 4) (.mov (.t 7)))]) .ret))
abbrev k_gate_Same_0 : SC := (.ops false [(.op (some 7) (.fa 1 (.t 2))), (.op (some 8) (.ld 1 false (.t 7))), (.op (some 9) (.len false (.t 8))), (.op (some 10) (.fa 1 (.t 3))), (.op (some 11) (.ld 1 false (.t 10))), (.op (some 12) (.len false (.t 11))), (.op (some 13) (.bin .neq false (.t 9) (.t 12))), (.op (some 14) (.mov (.t 13))), (.grp 14 false [⟨(some 15), (.fa 0 (.t 2))⟩, ⟨(some 16), (.ld 1 false (.t 15))⟩, ⟨(some 17), (.fa 0 (.t 3))⟩, ⟨(some 18), (.ld 1 false (.t 17))⟩, ⟨(some 19), (.call 43 [(.t 16), (.t 18)])⟩, ⟨(some 20), (.un .not (.t 19))⟩]), (.op (some 21) (.pick (.t 14) (.c (.b true)) (.t 20)))])
abbrev k_gate_Same_1 : SC := (.block 1 (.seq (.ops false [(.op (some 27) (.mov (.t 25))), (.op (some 28) (.ia 3 (.t 23) (.t 25))), (.op (some 29) (.ld 3 true (.t 28))), (.op (some 6) (.alloc [(.i 0), (.i 0), (.b false)])), (.op (some 5) (.mov (.t 27))), (.op none (.st 3 (.t 6) (.t 29)))]) (.seq (.ops true [(.op (some 30) (.ld 3 true (.t 6))), (.op (some 31) (.fa 1 (.t 3))), (.op (some 32) (.ld 1 false (.t 31))), (.op (some 33) (.mov (.t 5))), (.op (some 34) (.ia 3 (.t 32) (.t 33))), (.op (some 35) (.ld 3 true (.t 34))), (.op (some 36) (.eqs true [(0, (.i .i64)), (1, (.i .i64)), (2, .b)] (.t 30) (.t 35)))]) (.cond (.t 36) (.seq (.ops false [(.op (some 4) (.mov (.c (.b false))))]) .ret) .skip))))
abbrev k_gate_Same_2 : SC := (.seq (.ops false [(.op (some 26) (.bin .lss false (.t 25) (.t 24)))]) (.seq (.cond (.t 26) .skip (.exit 0)) (.seq k_gate_Same_1 (.ops false [(.op (some 37) (.bin .add false (.t 25) (.c (.i 1)))), (.op (some 25) (.mov (.t 37)))]))))
abbrev k_gate_Same_3 : SC := (.block 0 (.loop k_gate_Same_2))
abbrev k_gate_Same_4 : SC := (.seq (.ops false [(.op (some 22) (.fa 1 (.t 2))), (.op (some 23) (.ld 1 false (.t 22))), (.op (some 24) (.len false (.t 23))), (.op (some 25) (.mov (.c (.i 0))))]) k_gate_Same_3)
abbrev k_gate_Same_5 : SC := (.seq k_gate_Same_4 (.seq (.ops false [(.op (some 4) (.mov (.c (.b true))))]) .ret))
abbrev k_gate_Same_6 : SC := (.seq (.seq k_gate_Same_0 (.cond (.t 21) (.seq (.ops false [(.op (some 4) (.mov (.c (.b false))))]) .ret) .skip)) k_gate_Same_5)
abbrev k_gate_Same : SC := (.seq (.ops false [(.op (some 2) (.box (.t 0))), (.op (some 3) (.box (.t 1))), (.op (some 4) (.mov (.c (.b false))))]) k_gate_Same_6)
abbrev k_law32_awake_0 : SC := (.ops false [(.op (some 80) (.mov (.t 4))), (.op (some 81) (.bin .eql false (.t 80) (.c (.i 0)))), (.op (some 82) (.mov (.t 81))), (.grp 82 true [⟨(some 83), (.mov (.t 6))⟩, ⟨(some 84), (.bin .eql false (.t 83) (.c (.i 2)))⟩]), (.op (some 85) (.pick (.t 82) (.t 84) (.c (.b false)))), (.op (some 86) (.mov (.t 85))), (.grp 86 true [⟨(some 87), (.mov (.t 8))⟩, ⟨(some 88), (.bin .eql false (.t 87) (.c (.i 0)))⟩]), (.op (some 89) (.pick (.t 86) (.t 88) (.c (.b false)))), (.op (some 90) (.mov (.t 89))), (.grp 90 true [⟨(some 91), (.mov (.t 10))⟩, ⟨(some 92), (.bin .eql false (.t 91) (.c (.i 8)))⟩]), (.op (some 93) (.pick (.t 90) (.t 92) (.c (.b false)))), (.op (some 94) (.mov (.t 93))), (.grp 94 true [⟨(some 95), (.mov (.t 12))⟩, ⟨(some 96), (.bin .eql false (.t 95) (.c (.i 13)))⟩]), (.op (some 97) (.pick (.t 94) (.t 96) (.c (.b false)))), (.op (some 98) (.mov (.t 97))), (.grp 98 true [⟨(some 99), (.mov (.t 14))⟩, ⟨(some 100), (.bin .eql false (.t 99) (.c (.i 0)))⟩]), (.op (some 101) (.pick (.t 98) (.t 100) (.c (.b false)))), (.op (some 102) (.mov (.t 101))), (.grp 102 true [⟨(some 103), (.mov (.t 16))⟩, ⟨(some 104), (.bin .eql false (.t 103) (.c (.i 12)))⟩]), (.op (some 105) (.pick (.t 102) (.t 104) (.c (.b false)))), (.op (some 106) (.mov (.t 105))), (.grp 106 true [⟨(some 107), (.mov (.t 18))⟩, ⟨(some 108), (.bin .eql false (.t 107) (.c (.i 0)))⟩]), (.op (some 109) (.pick (.t 106) (.t 108) (.c (.b false)))), (.op (some 110) (.mov (.t 109))), (.grp 110 true [⟨(some 111), (.mov (.t 20))⟩, ⟨(some 112), (.bin .eql false (.t 111) (.c (.i 20)))⟩]), (.op (some 113) (.pick (.t 110) (.t 112) (.c (.b false)))), (.op (some 114) (.mov (.t 113))), (.grp 114 true [⟨(some 115), (.ld 2 true (.t 13))⟩, ⟨(some 116), (.build [(.i 0), (.i 0), (.i 0), (.s []), .emp] [(1, (1, (.c (.i 2)))), (3, (1, (.c (.s [116]))))])⟩, ⟨(some 117), (.call 14 [(.t 115), (.t 116)])⟩, ⟨(some 118), (.bin .eql false (.t 117) (.c (.i 17)))⟩]), (.op (some 119) (.pick (.t 114) (.t 118) (.c (.b false)))), (.op (some 120) (.mov (.t 119))), (.grp 120 true [⟨(some 121), (.ld 2 true (.t 13))⟩, ⟨(some 122), (.build [(.i 0), (.i 0), (.i 0), (.s []), .emp] [(3, (1, (.c (.s [117]))))])⟩, ⟨(some 123), (.call 14 [(.t 121), (.t 122)])⟩, ⟨(some 124), (.bin .eql false (.t 123) (.c (.i 6)))⟩]), (.op (some 125) (.pick (.t 120) (.t 124) (.c (.b false)))), (.op (some 126) (.mov (.t 125))), (.grp 126 true [⟨(some 127), (.ld 2 true (.t 13))⟩, ⟨(some 128), (.call 22 [(.t 127)])⟩, ⟨(some 129), (.bin .eql false (.t 128) (.c (.i 0)))⟩]), (.op (some 130) (.pick (.t 126) (.t 129) (.c (.b false)))), (.op (some 131) (.mov (.t 130))), (.grp 131 true [⟨(some 132), (.ld 2 true (.t 17))⟩, ⟨(some 133), (.call 22 [(.t 132)])⟩, ⟨(some 134), (.bin .eql false (.t 133) (.c (.i 5)))⟩]), (.op (some 135) (.pick (.t 131) (.t 134) (.c (.b false)))), (.op (some 136) (.mov (.t 135))), (.grp 136 true [⟨(some 137), (.ld 2 true (.t 21))⟩, ⟨(some 138), (.call 22 [(.t 137)])⟩, ⟨(some 139), (.bin .eql false (.t 138) (.c (.i 1099511627777)))⟩]), (.op (some 140) (.pick (.t 136) (.t 139) (.c (.b false)))), (.op (some 141) (.mov (.t 140))), (.grp 141 true [⟨(some 142), (.ld 2 true (.t 13))⟩, ⟨(some 143), (.ld 2 true (.t 13))⟩, ⟨(some 144), (.call 24 [(.t 142), (.t 143)])⟩]), (.op (some 145) (.pick (.t 141) (.t 144) (.c (.b false)))), (.op (some 146) (.mov (.t 145))), (.grp 146 true [⟨(some 147), (.ld 2 true (.t 13))⟩, ⟨(some 148), (.ld 2 true (.t 17))⟩, ⟨(some 149), (.call 24 [(.t 147), (.t 148)])⟩, ⟨(some 150), (.un .not (.t 149))⟩]), (.op (some 151) (.pick (.t 146) (.t 150) (.c (.b false)))), (.op (some 152) (.mov (.t 151))), (.op (some 153) (.pick (.t 152) (.c (.b true)) (.c (.b false)))), (.op (some 0) (.mov (.t 153)))])
abbrev k_law32_awake_1 : SC := (.seq (.ops false [(.op (some 71) (.ld 2 true (.t 17))), (.op (some 72) (.call 20 [(.t 71), (.c (.i 1))])), (.op (some 70) (.mov (.t 72))), (.op (some 73) (.ext 0 (.t 70))), (.op (some 74) (.ext 1 (.t 70))), (.op (some 19) (.alloc [.emp, .emp])), (.op none (.st 2 (.t 19) (.t 73))), (.op (some 20) (.mov (.t 74)))]) (.seq (.ops false [(.op (some 76) (.ld 2 true (.t 17))), (.op (some 77) (.call 20 [(.t 76), (.c (.i 0))])), (.op (some 75) (.mov (.t 77))), (.op (some 78) (.ext 0 (.t 75))), (.op (some 79) (.ext 1 (.t 75))), (.op (some 21) (.alloc [.emp, .emp])), (.op none (.st 2 (.t 21) (.t 78))), (.op (some 22) (.mov (.t 79)))]) (.seq k_law32_awake_0 .ret)))
abbrev k_law32_awake_2 : SC := (.seq (.ops false [(.op (some 60) (.ld 2 true (.t 13))), (.op (some 61) (.build [(.i 0), (.i 0), (.i 0), (.s []), .emp] [(0, (1, (.c (.i 5)))), (2, (1, (.c (.i 3)))), (3, (1, (.c (.s [116]))))])), (.op (some 62) (.call 16 [(.t 60), (.t 61)])), (.op (some 59) (.mov (.t 62))), (.op (some 63) (.ext 0 (.t 59))), (.op (some 64) (.ext 1 (.t 59))), (.op (some 15) (.alloc [.emp, .emp])), (.op none (.st 2 (.t 15) (.t 63))), (.op (some 16) (.mov (.t 64)))]) (.seq (.ops false [(.op (some 66) (.ld 2 true (.t 13))), (.op (some 67) (.call 20 [(.t 66), (.c (.i 1))])), (.op (some 65) (.mov (.t 67))), (.op (some 68) (.ext 0 (.t 65))), (.op (some 69) (.ext 1 (.t 65))), (.op (some 17) (.alloc [.emp, .emp])), (.op none (.st 2 (.t 17) (.t 68))), (.op (some 18) (.mov (.t 69)))]) k_law32_awake_1))
abbrev k_law32_awake_3 : SC := (.seq (.ops false [(.op (some 48) (.ld 2 true (.t 7))), (.op (some 49) (.build [(.i 0), (.i 0), (.i 0), (.s []), .emp] [(0, (1, (.c (.i 4)))), (3, (1, (.c (.s [116]))))])), (.op (some 50) (.call 16 [(.t 48), (.t 49)])), (.op (some 47) (.mov (.t 50))), (.op (some 51) (.ext 0 (.t 47))), (.op (some 52) (.ext 1 (.t 47))), (.op (some 11) (.alloc [.emp, .emp])), (.op none (.st 2 (.t 11) (.t 51))), (.op (some 12) (.mov (.t 52)))]) (.seq (.ops false [(.op (some 54) (.ld 2 true (.t 7))), (.op (some 55) (.build [(.i 0), (.i 0), (.i 0), (.s []), .emp] [(0, (1, (.c (.i 5)))), (2, (1, (.c (.i 3)))), (3, (1, (.c (.s [116]))))])), (.op (some 56) (.call 16 [(.t 54), (.t 55)])), (.op (some 53) (.mov (.t 56))), (.op (some 57) (.ext 0 (.t 53))), (.op (some 58) (.ext 1 (.t 53))), (.op (some 13) (.alloc [.emp, .emp])), (.op none (.st 2 (.t 13) (.t 57))), (.op (some 14) (.mov (.t 58)))]) k_law32_awake_2))
abbrev k_law32_awake_4 : SC := (.seq (.ops false [(.op (some 38) (.ld 2 true (.t 3))), (.op (some 39) (.call 18 [(.t 38), (.c (.i 0)), (.c (.i 5))])), (.op (some 37) (.mov (.t 39))), (.op (some 40) (.ext 0 (.t 37))), (.op (some 41) (.ext 1 (.t 37))), (.op (some 7) (.alloc [.emp, .emp])), (.op none (.st 2 (.t 7) (.t 40))), (.op (some 8) (.mov (.t 41)))]) (.seq (.ops false [(.op (some 43) (.ld 2 true (.t 7))), (.op (some 44) (.call 18 [(.t 43), (.c (.i 0)), (.c (.i 4))])), (.op (some 42) (.mov (.t 44))), (.op (some 45) (.ext 0 (.t 42))), (.op (some 46) (.ext 1 (.t 42))), (.op (some 9) (.alloc [.emp, .emp])), (.op none (.st 2 (.t 9) (.t 45))), (.op (some 10) (.mov (.t 46)))]) k_law32_awake_3))
abbrev k_law32_awake_5 : SC := (.seq (.ops false [(.op (some 28) (.mov (.t 1))), (.op (some 29) (.call 7 [(.t 28), (.c (.i 2))])), (.op (some 27) (.mov (.t 29))), (.op (some 30) (.ext 0 (.t 27))), (.op (some 31) (.ext 1 (.t 27))), (.op (some 3) (.alloc [.emp, .emp])), (.op none (.st 2 (.t 3) (.t 30))), (.op (some 4) (.mov (.t 31)))]) (.seq (.ops false [(.op (some 33) (.mov (.t 1))), (.op (some 34) (.call 7 [(.t 33), (.c (.i 17))])), (.op (some 32) (.mov (.t 34))), (.op (some 35) (.ext 0 (.t 32))), (.op (some 36) (.ext 1 (.t 32))), (.op (some 5) (.alloc [.emp, .emp])), (.op none (.st 2 (.t 5) (.t 35))), (.op (some 6) (.mov (.t 36)))]) k_law32_awake_4))
abbrev k_law32_awake : SC := (.seq (.ops false [(.op (some 0) (.mov (.c (.b false))))]) (.seq (.ops false [(.op (some 24) (.call 26 [(.c (.s [116, 10]))])), (.op (some 23) (.mov (.t 24))), (.op (some 25) (.ext 0 (.t 23))), (.op (some 26) (.ext 1 (.t 23))), (.op (some 1) (.mov (.t 25))), (.op (some 2) (.mov (.t 26)))]) k_law32_awake_5))
abbrev k_law06_Own_0 : SC := (.block 3 (.ops true [(.op (some 29) (.fa 1 (.t 5))), (.op (some 30) (.ld 1 false (.t 29))), (.op (some 31) (.mov (.t 0))), (.op (some 32) (.mov (.t 4))), (.op (some 33) (.ia 2 (.t 31) (.t 32))), (.op (some 34) (.fa 1 (.t 33))), (.op (some 35) (.ld 1 false (.t 34))), (.op (some 36) (.mov (.t 6))), (.op (some 37) (.ia 2 (.t 35) (.t 36))), (.op (some 38) (.ld 2 true (.t 37))), (.op (some 39) (.bsl 2 [(.t 38)])), (.op (some 40) (.app 2 24 (.t 30) (.t 39))), (.op (some 41) (.fa 1 (.t 5))), (.op none (.st 1 (.t 41) (.t 40)))]))
abbrev k_law06_Own_1 : SC := (.seq (.seq (.ops false [(.op (some 19) (.mov (.t 6))), (.op (some 20) (.mov (.t 0))), (.op (some 21) (.mov (.t 4))), (.op (some 22) (.ia 2 (.t 20) (.t 21))), (.op (some 23) (.fa 1 (.t 22))), (.op (some 24) (.ld 1 false (.t 23))), (.op (some 25) (.len false (.t 24))), (.op (some 26) (.bin .lss false (.t 19) (.t 25)))]) (.cond (.t 26) .skip (.exit 2))) (.seq k_law06_Own_0 (.ops false [(.op (some 27) (.mov (.t 6))), (.op (some 28) (.bin .add false (.t 27) (.c (.i 1)))), (.op (some 6) (.mov (.t 28)))])))
abbrev k_law06_Own_2 : SC := (.block 2 (.loop k_law06_Own_1))
abbrev k_law06_Own_3 : SC := (.seq (.ops false [(.op (some 6) (.mov (.c (.i 0))))]) k_law06_Own_2)
abbrev k_law06_Own_4 : SC := (.seq k_law06_Own_3 (.ops false [(.op (some 42) (.mov (.t 3))), (.op (some 43) (.ld 2 true (.t 5))), (.op (some 44) (.bsl 2 [(.t 43)])), (.op (some 45) (.app 2 40 (.t 42) (.t 44))), (.op (some 3) (.mov (.t 45)))]))
abbrev k_law06_Own_5 : SC := (.block 1 (.seq (.ops false [(.op (some 13) (.mov (.t 0))), (.op (some 14) (.mov (.t 4))), (.op (some 15) (.ia 2 (.t 13) (.t 14))), (.op (some 16) (.fa 0 (.t 15))), (.op (some 17) (.ld 1 false (.t 16))), (.op (some 18) (.build [(.s []), .emp] [(0, (1, (.t 17)))])), (.op (some 5) (.alloc [(.s []), .emp])), (.op none (.st 2 (.t 5) (.t 18)))]) k_law06_Own_4))
abbrev k_law06_Own_6 : SC := (.seq k_law06_Own_5 (.ops false [(.op (some 11) (.mov (.t 4))), (.op (some 12) (.bin .add false (.t 11) (.c (.i 1)))), (.op (some 4) (.mov (.t 12)))]))
abbrev k_law06_Own_7 : SC := (.seq (.seq (.ops false [(.op (some 7) (.mov (.t 4))), (.op (some 8) (.mov (.t 0))), (.op (some 9) (.len false (.t 8))), (.op (some 10) (.bin .lss false (.t 7) (.t 9)))]) (.cond (.t 10) .skip (.exit 0))) k_law06_Own_6)
abbrev k_law06_Own_8 : SC := (.block 0 (.loop k_law06_Own_7))
abbrev k_law06_Own_9 : SC := (.seq (.ops false [(.op (some 4) (.mov (.c (.i 0))))]) k_law06_Own_8)
abbrev k_law06_Own_10 : SC := (.seq k_law06_Own_9 (.seq (.ops false [(.op (some 46) (.mov (.t 3))), (.op (some 2) (.mov (.t 46)))]) .ret))
abbrev k_law06_Own_11 : SC := (.seq (.ops false [(.op (some 3) (.mov (.c .emp)))]) k_law06_Own_10)
abbrev k_law06_Own : SC := (.seq (.ops false [(.op (some 2) (.mov (.c .emp)))]) k_law06_Own_11)
abbrev k_ref06_Reserved_0 : SC := (.seq (.seq (.ops false [(.op (some 6) (.mov (.t 4))), (.op (some 7) (.mov (.t 3))), (.op (some 8) (.len false (.t 7))), (.op (some 9) (.bin .lss false (.t 6) (.t 8)))]) (.cond (.t 9) .skip (.exit 0))) (.seq (.block 1 (.seq (.ops false [(.op (some 12) (.mov (.t 3))), (.op (some 13) (.mov (.t 4))), (.op (some 14) (.ia 1 (.t 12) (.t 13))), (.op (some 15) (.ld 1 false (.t 14))), (.op (some 16) (.mov (.t 0))), (.op (some 17) (.bin .eql false (.t 15) (.t 16)))]) (.cond (.t 17) (.seq (.ops false [(.op (some 2) (.mov (.c (.b true))))]) .ret) .skip))) (.ops false [(.op (some 10) (.mov (.t 4))), (.op (some 11) (.bin .add false (.t 10) (.c (.i 1)))), (.op (some 4) (.mov (.t 11)))])))
abbrev k_ref06_Reserved_1 : SC := (.block 0 (.loop k_ref06_Reserved_0))
abbrev k_ref06_Reserved_2 : SC := (.seq (.ops false [(.op (some 4) (.mov (.c (.i 0))))]) k_ref06_Reserved_1)
abbrev k_ref06_Reserved_3 : SC := (.seq k_ref06_Reserved_2 (.seq (.ops false [(.op (some 2) (.mov (.c (.b false))))]) .ret))
abbrev k_ref06_Reserved_4 : SC := (.seq (.ops false [(.op (some 5) (.bsl 1 [(.c (.s [119, 105, 116, 104, 105, 110])), (.c (.s [98, 121])), (.c (.s [97, 110, 100])), (.c (.s [111, 114])), (.c (.s [110, 111, 116])), (.c (.s [97, 110, 121])), (.c (.s [110, 101, 120, 116])), (.c (.s [115, 116, 114, 105, 99, 116])), (.c (.s [116, 114, 117, 101])), (.c (.s [102, 97, 108, 115, 101]))])), (.op (some 3) (.mov (.t 5)))]) k_ref06_Reserved_3)
abbrev k_ref06_Reserved : SC := (.seq (.ops false [(.op (some 2) (.mov (.c (.b false))))]) k_ref06_Reserved_4)
abbrev k_ref06_Name_0 : SC := (.ops false [(.op (some 6) (.mov (.t 0))), (.op (some 7) (.len true (.t 6))), (.op (some 8) (.bin .lss false (.t 7) (.c (.i 1)))), (.op (some 9) (.mov (.t 8))), (.grp 9 false [⟨(some 10), (.mov (.t 0))⟩, ⟨(some 11), (.len true (.t 10))⟩, ⟨(some 12), (.bin .gtr false (.t 11) (.c (.i 12)))⟩]), (.op (some 13) (.pick (.t 9) (.c (.b true)) (.t 12))), (.op (some 14) (.mov (.t 13))), (.grp 14 false [⟨(some 15), (.mov (.t 0))⟩, ⟨(some 16), (.call 75 [(.t 15)])⟩]), (.op (some 17) (.pick (.t 14) (.c (.b true)) (.t 16)))])
abbrev k_ref06_Name_1 : SC := (.seq (.ops false [(.op (some 50) (.mov (.t 4))), (.op (some 51) (.un .not (.t 50))), (.op (some 52) (.mov (.t 51))), (.grp 52 true [⟨(some 53), (.mov (.t 3))⟩, ⟨(some 54), (.bin .eql false (.t 53) (.c (.i 0)))⟩, ⟨(some 55), (.mov (.t 54))⟩]), (.grp 55 false [⟨(some 56), (.mov (.t 5))⟩, ⟨(some 57), (.un .not (.t 56))⟩]), (.grp 52 true [⟨(some 58), (.pick (.t 55) (.c (.b true)) (.t 57))⟩]), (.op (some 59) (.pick (.t 52) (.t 58) (.c (.b false))))]) (.cond (.t 59) (.seq (.ops false [(.op (some 2) (.mov (.c (.b false))))]) .ret) .skip))
abbrev k_ref06_Name_2 : SC := (.ops false [(.op (some 34) (.mov (.t 0))), (.op (some 35) (.mov (.t 3))), (.op (some 36) (.ix (.t 34) (.t 35))), (.op (some 37) (.bin .geq false (.t 36) (.c (.v (.int .u8 48))))), (.op (some 38) (.mov (.t 37))), (.grp 38 true [⟨(some 39), (.mov (.t 0))⟩, ⟨(some 40), (.mov (.t 3))⟩, ⟨(some 41), (.ix (.t 39) (.t 40))⟩, ⟨(some 42), (.bin .leq false (.t 41) (.c (.v (.int .u8 57))))⟩]), (.op (some 43) (.pick (.t 38) (.t 42) (.c (.b false)))), (.op (some 44) (.mov (.t 43))), (.grp 44 false [⟨(some 45), (.mov (.t 0))⟩, ⟨(some 46), (.mov (.t 3))⟩, ⟨(some 47), (.ix (.t 45) (.t 46))⟩, ⟨(some 48), (.bin .eql false (.t 47) (.c (.v (.int .u8 95))))⟩]), (.op (some 49) (.pick (.t 44) (.c (.b true)) (.t 48))), (.op (some 5) (.mov (.t 49)))])
abbrev k_ref06_Name_3 : SC := (.block 1 (.seq (.ops false [(.op (some 24) (.mov (.t 0))), (.op (some 25) (.mov (.t 3))), (.op (some 26) (.ix (.t 24) (.t 25))), (.op (some 27) (.bin .geq false (.t 26) (.c (.v (.int .u8 97))))), (.op (some 28) (.mov (.t 27))), (.grp 28 true [⟨(some 29), (.mov (.t 0))⟩, ⟨(some 30), (.mov (.t 3))⟩, ⟨(some 31), (.ix (.t 29) (.t 30))⟩, ⟨(some 32), (.bin .leq false (.t 31) (.c (.v (.int .u8 122))))⟩]), (.op (some 33) (.pick (.t 28) (.t 32) (.c (.b false)))), (.op (some 4) (.mov (.t 33)))]) (.seq k_ref06_Name_2 k_ref06_Name_1)))
abbrev k_ref06_Name_4 : SC := (.seq (.seq (.ops false [(.op (some 18) (.mov (.t 3))), (.op (some 19) (.mov (.t 0))), (.op (some 20) (.len true (.t 19))), (.op (some 21) (.bin .lss false (.t 18) (.t 20)))]) (.cond (.t 21) .skip (.exit 0))) (.seq k_ref06_Name_3 (.ops false [(.op (some 22) (.mov (.t 3))), (.op (some 23) (.bin .add false (.t 22) (.c (.i 1)))), (.op (some 3) (.mov (.t 23)))])))
abbrev k_ref06_Name_5 : SC := (.block 0 (.loop k_ref06_Name_4))
abbrev k_ref06_Name_6 : SC := (.seq (.ops false [(.op (some 3) (.mov (.c (.i 0))))]) k_ref06_Name_5)
abbrev k_ref06_Name_7 : SC := (.seq k_ref06_Name_6 (.seq (.ops false [(.op (some 2) (.mov (.c (.b true))))]) .ret))
abbrev k_ref06_Name_8 : SC := (.seq (.seq k_ref06_Name_0 (.cond (.t 17) (.seq (.ops false [(.op (some 2) (.mov (.c (.b false))))]) .ret) .skip)) k_ref06_Name_7)
abbrev k_ref06_Name : SC := (.seq (.ops false [(.op (some 2) (.mov (.c (.b false))))]) k_ref06_Name_8)
abbrev k_ref04_Word_0 : SC := (.seq (.seq (.ops false [(.op (some 7) (.mov (.t 0))), (.op (some 8) (.bin .eql false (.t 7) (.c (.v (.int .u8 3)))))]) (.cond (.t 8) (.seq (.ops false [(.op (some 2) (.mov (.c (.s [114, 101, 97, 108]))))]) .ret) .skip)) (.seq (.seq (.ops false [(.op (some 9) (.mov (.t 0))), (.op (some 10) (.bin .eql false (.t 9) (.c (.v (.int .u8 4)))))]) (.cond (.t 10) (.seq (.ops false [(.op (some 2) (.mov (.c (.s [116, 101, 120, 116]))))]) .ret) .skip)) (.seq (.ops false [(.op (some 2) (.mov (.c (.s []))))]) .ret)))
abbrev k_ref04_Word : SC := (.seq (.ops false [(.op (some 2) (.mov (.c (.s []))))]) (.seq (.seq (.ops false [(.op (some 3) (.mov (.t 0))), (.op (some 4) (.bin .eql false (.t 3) (.c (.v (.int .u8 1)))))]) (.cond (.t 4) (.seq (.ops false [(.op (some 2) (.mov (.c (.s [105, 110, 116]))))]) .ret) .skip)) (.seq (.seq (.ops false [(.op (some 5) (.mov (.t 0))), (.op (some 6) (.bin .eql false (.t 5) (.c (.v (.int .u8 2)))))]) (.cond (.t 6) (.seq (.ops false [(.op (some 2) (.mov (.c (.s [102, 108, 97, 103]))))]) .ret) .skip)) k_ref04_Word_0)))
abbrev k_ref06_one_0 : SC := (.seq (.block 3 (.seq (.ops true [(.op (some 39) (.fa 1 (.t 1))), (.op (some 40) (.ld 1 false (.t 39))), (.op (some 41) (.mov (.t 5))), (.op (some 42) (.ia 2 (.t 40) (.t 41))), (.op (some 43) (.fa 0 (.t 42))), (.op (some 44) (.ld 1 false (.t 43))), (.op (some 45) (.fa 0 (.t 4))), (.op (some 46) (.ld 1 false (.t 45))), (.op (some 47) (.bin .eql false (.t 44) (.t 46)))]) (.cond (.t 47) (.seq (.ops false [(.op (some 2) (.mov (.c (.i 21))))]) .ret) .skip))) (.ops false [(.op (some 37) (.mov (.t 5))), (.op (some 38) (.bin .add false (.t 37) (.c (.i 1)))), (.op (some 5) (.mov (.t 38)))]))
abbrev k_ref06_one_1 : SC := (.seq (.seq (.ops false [(.op (some 34) (.mov (.t 5))), (.op (some 35) (.mov (.t 3))), (.op (some 36) (.bin .lss false (.t 34) (.t 35)))]) (.cond (.t 36) .skip (.exit 2))) k_ref06_one_0)
abbrev k_ref06_one_2 : SC := (.block 2 (.loop k_ref06_one_1))
abbrev k_ref06_one_3 : SC := (.seq (.ops false [(.op (some 5) (.mov (.c (.i 0))))]) k_ref06_one_2)
abbrev k_ref06_one_4 : SC := (.seq (.seq (.ops false [(.op (some 30) (.fa 1 (.t 4))), (.op (some 31) (.ld 1 false (.t 30))), (.op (some 32) (.call 65 [(.t 31)])), (.op (some 33) (.bin .eql false (.t 32) (.c (.s []))))]) (.cond (.t 33) (.seq (.ops false [(.op (some 2) (.mov (.c (.i 11))))]) .ret) .skip)) k_ref06_one_3)
abbrev k_ref06_one_5 : SC := (.seq (.seq (.ops false [(.op (some 26) (.fa 0 (.t 4))), (.op (some 27) (.ld 1 false (.t 26))), (.op (some 28) (.call 64 [(.t 27)])), (.op (some 29) (.un .not (.t 28)))]) (.cond (.t 29) (.seq (.ops false [(.op (some 2) (.mov (.c (.i 4))))]) .ret) .skip)) k_ref06_one_4)
abbrev k_ref06_one_6 : SC := (.block 1 (.seq (.ops false [(.op (some 21) (.fa 1 (.t 1))), (.op (some 22) (.ld 1 false (.t 21))), (.op (some 23) (.mov (.t 3))), (.op (some 24) (.ia 2 (.t 22) (.t 23))), (.op (some 25) (.ld 2 true (.t 24))), (.op (some 4) (.alloc [(.s []), (.v (.int .u8 0))])), (.op none (.st 2 (.t 4) (.t 25)))]) k_ref06_one_5))
abbrev k_ref06_one_7 : SC := (.seq k_ref06_one_6 (.ops false [(.op (some 19) (.mov (.t 3))), (.op (some 20) (.bin .add false (.t 19) (.c (.i 1)))), (.op (some 3) (.mov (.t 20)))]))
abbrev k_ref06_one_8 : SC := (.seq (.seq (.ops false [(.op (some 14) (.mov (.t 3))), (.op (some 15) (.fa 1 (.t 1))), (.op (some 16) (.ld 1 false (.t 15))), (.op (some 17) (.len false (.t 16))), (.op (some 18) (.bin .lss false (.t 14) (.t 17)))]) (.cond (.t 18) .skip (.exit 0))) k_ref06_one_7)
abbrev k_ref06_one_9 : SC := (.block 0 (.loop k_ref06_one_8))
abbrev k_ref06_one_10 : SC := (.seq (.ops false [(.op (some 3) (.mov (.c (.i 0))))]) k_ref06_one_9)
abbrev k_ref06_one_11 : SC := (.seq k_ref06_one_10 (.seq (.ops false [(.op (some 2) (.mov (.c (.i 0))))]) .ret))
abbrev k_ref06_one_12 : SC := (.seq (.seq (.ops false [(.op (some 10) (.fa 1 (.t 1))), (.op (some 11) (.ld 1 false (.t 10))), (.op (some 12) (.len false (.t 11))), (.op (some 13) (.bin .gtr false (.t 12) (.c (.i 6))))]) (.cond (.t 13) (.seq (.ops false [(.op (some 2) (.mov (.c (.i 5))))]) .ret) .skip)) k_ref06_one_11)
abbrev k_ref06_one_13 : SC := (.seq (.seq (.ops false [(.op (some 6) (.fa 0 (.t 1))), (.op (some 7) (.ld 1 false (.t 6))), (.op (some 8) (.call 64 [(.t 7)])), (.op (some 9) (.un .not (.t 8)))]) (.cond (.t 9) (.seq (.ops false [(.op (some 2) (.mov (.c (.i 4))))]) .ret) .skip)) k_ref06_one_12)
abbrev k_ref06_one : SC := (.seq (.ops false [(.op (some 1) (.box (.t 0))), (.op (some 2) (.mov (.c (.i 0))))]) k_ref06_one_13)
abbrev k_ref06_Check_0 : SC := (.block 3 (.seq (.ops true [(.op (some 28) (.mov (.t 0))), (.op (some 29) (.mov (.t 5))), (.op (some 30) (.ia 2 (.t 28) (.t 29))), (.op (some 31) (.fa 0 (.t 30))), (.op (some 32) (.ld 1 false (.t 31))), (.op (some 33) (.mov (.t 0))), (.op (some 34) (.mov (.t 3))), (.op (some 35) (.ia 2 (.t 33) (.t 34))), (.op (some 36) (.fa 0 (.t 35))), (.op (some 37) (.ld 1 false (.t 36))), (.op (some 38) (.bin .eql false (.t 32) (.t 37)))]) (.cond (.t 38) (.seq (.ops false [(.op (some 2) (.mov (.c (.i 21))))]) .ret) .skip)))
abbrev k_ref06_Check_1 : SC := (.seq (.seq (.ops false [(.op (some 23) (.mov (.t 5))), (.op (some 24) (.mov (.t 3))), (.op (some 25) (.bin .lss false (.t 23) (.t 24)))]) (.cond (.t 25) .skip (.exit 2))) (.seq k_ref06_Check_0 (.ops false [(.op (some 26) (.mov (.t 5))), (.op (some 27) (.bin .add false (.t 26) (.c (.i 1)))), (.op (some 5) (.mov (.t 27)))])))
abbrev k_ref06_Check_2 : SC := (.block 2 (.loop k_ref06_Check_1))
abbrev k_ref06_Check_3 : SC := (.seq (.ops false [(.op (some 5) (.mov (.c (.i 0))))]) k_ref06_Check_2)
abbrev k_ref06_Check_4 : SC := (.block 1 (.seq (.seq (.ops false [(.op (some 15) (.mov (.t 0))), (.op (some 16) (.mov (.t 3))), (.op (some 17) (.ia 2 (.t 15) (.t 16))), (.op (some 18) (.ld 2 true (.t 17))), (.op (some 19) (.call 49 [(.t 18)])), (.op (some 4) (.mov (.t 19)))]) (.seq (.ops false [(.op (some 20) (.mov (.t 4))), (.op (some 21) (.bin .neq false (.t 20) (.c (.i 0))))]) (.cond (.t 21) (.seq (.ops false [(.op (some 22) (.mov (.t 4))), (.op (some 2) (.mov (.t 22)))]) .ret) .skip))) k_ref06_Check_3))
abbrev k_ref06_Check_5 : SC := (.seq k_ref06_Check_4 (.ops false [(.op (some 13) (.mov (.t 3))), (.op (some 14) (.bin .add false (.t 13) (.c (.i 1)))), (.op (some 3) (.mov (.t 14)))]))
abbrev k_ref06_Check_6 : SC := (.seq (.seq (.ops false [(.op (some 9) (.mov (.t 3))), (.op (some 10) (.mov (.t 0))), (.op (some 11) (.len false (.t 10))), (.op (some 12) (.bin .lss false (.t 9) (.t 11)))]) (.cond (.t 12) .skip (.exit 0))) k_ref06_Check_5)
abbrev k_ref06_Check_7 : SC := (.block 0 (.loop k_ref06_Check_6))
abbrev k_ref06_Check_8 : SC := (.seq (.ops false [(.op (some 3) (.mov (.c (.i 0))))]) k_ref06_Check_7)
abbrev k_ref06_Check_9 : SC := (.seq k_ref06_Check_8 (.seq (.ops false [(.op (some 2) (.mov (.c (.i 0))))]) .ret))
abbrev k_ref06_Check_10 : SC := (.seq (.seq (.ops false [(.op (some 6) (.mov (.t 0))), (.op (some 7) (.len false (.t 6))), (.op (some 8) (.bin .gtr false (.t 7) (.c (.i 8))))]) (.cond (.t 8) (.seq (.ops false [(.op (some 2) (.mov (.c (.i 5))))]) .ret) .skip)) k_ref06_Check_9)
abbrev k_ref06_Check : SC := (.seq (.ops false [(.op (some 2) (.mov (.c (.i 0))))]) k_ref06_Check_10)
abbrev k_ref32_New_0 : SC := (.ops false [(.op (some 8) (.mov (.t 0))), (.op (some 9) (.call 29 [(.t 8)])), (.op (some 10) (.bin .neq false (.t 9) (.c (.i 0)))), (.op (some 11) (.mov (.t 10))), (.grp 11 false [⟨(some 12), (.mov (.t 1))⟩, ⟨(some 13), (.bin .lss false (.t 12) (.c (.i 1)))⟩]), (.op (some 14) (.pick (.t 11) (.c (.b true)) (.t 13))), (.op (some 15) (.mov (.t 14))), (.grp 15 false [⟨(some 16), (.mov (.t 1))⟩, ⟨(some 17), (.bin .gtr false (.t 16) (.c (.i 16)))⟩]), (.op (some 18) (.pick (.t 15) (.c (.b true)) (.t 17)))])
abbrev k_ref32_New_1 : SC := (.seq (.block 1 (.ops false [(.op (some 27) (.fa 1 (.t 6))), (.op (some 28) (.ld 1 false (.t 27))), (.op (some 29) (.build [(.i 0), (.i 0), (.b false)] [(0, (1, (.c (.i 0)))), (1, (1, (.c (.i (-1))))), (2, (1, (.c (.b false))))])), (.op (some 30) (.bsl 3 [(.t 29)])), (.op (some 31) (.app 3 24 (.t 28) (.t 30))), (.op (some 32) (.fa 1 (.t 6))), (.op none (.st 1 (.t 32) (.t 31)))])) (.ops false [(.op (some 25) (.mov (.t 7))), (.op (some 26) (.bin .add false (.t 25) (.c (.i 1)))), (.op (some 7) (.mov (.t 26)))]))
abbrev k_ref32_New_2 : SC := (.seq (.seq (.ops false [(.op (some 22) (.mov (.t 7))), (.op (some 23) (.mov (.t 1))), (.op (some 24) (.bin .lss false (.t 22) (.t 23)))]) (.cond (.t 24) .skip (.exit 0))) k_ref32_New_1)
abbrev k_ref32_New_3 : SC := (.block 0 (.loop k_ref32_New_2))
abbrev k_ref32_New_4 : SC := (.seq (.ops false [(.op (some 7) (.mov (.c (.i 0))))]) k_ref32_New_3)
abbrev k_ref32_New_5 : SC := (.seq k_ref32_New_4 (.seq (.ops false [(.op (some 33) (.ld 2 true (.t 6))), (.op none (.st 2 (.t 4) (.t 33))), (.op (some 5) (.mov (.c (.i 0))))]) .ret))
abbrev k_ref32_New_6 : SC := (.seq (.ops false [(.op (some 20) (.mov (.t 0))), (.op (some 21) (.build [.emp, .emp] [(0, (1, (.t 20)))])), (.op (some 6) (.alloc [.emp, .emp])), (.op none (.st 2 (.t 6) (.t 21)))]) k_ref32_New_5)
abbrev k_ref32_New_7 : SC := (.seq (.seq k_ref32_New_0 (.cond (.t 18) (.seq (.ops false [(.op (some 19) (.build [.emp, .emp] [])), (.op none (.st 2 (.t 4) (.t 19))), (.op (some 5) (.mov (.c (.i 2))))]) .ret) .skip)) k_ref32_New_6)
abbrev k_ref32_New : SC := (.seq (.ops false [(.op (some 4) (.alloc [.emp, .emp])), (.op (some 5) (.mov (.c (.i 0))))]) k_ref32_New_7)
abbrev k_law06_Back_0 : SC := (.block 3 (.ops true [(.op (some 29) (.fa 1 (.t 5))), (.op (some 30) (.ld 1 false (.t 29))), (.op (some 31) (.mov (.t 0))), (.op (some 32) (.mov (.t 4))), (.op (some 33) (.ia 2 (.t 31) (.t 32))), (.op (some 34) (.fa 1 (.t 33))), (.op (some 35) (.ld 1 false (.t 34))), (.op (some 36) (.mov (.t 6))), (.op (some 37) (.ia 2 (.t 35) (.t 36))), (.op (some 38) (.ld 2 true (.t 37))), (.op (some 39) (.bsl 2 [(.t 38)])), (.op (some 40) (.app 2 24 (.t 30) (.t 39))), (.op (some 41) (.fa 1 (.t 5))), (.op none (.st 1 (.t 41) (.t 40)))]))
abbrev k_law06_Back_1 : SC := (.seq (.seq (.ops false [(.op (some 19) (.mov (.t 6))), (.op (some 20) (.mov (.t 0))), (.op (some 21) (.mov (.t 4))), (.op (some 22) (.ia 2 (.t 20) (.t 21))), (.op (some 23) (.fa 1 (.t 22))), (.op (some 24) (.ld 1 false (.t 23))), (.op (some 25) (.len false (.t 24))), (.op (some 26) (.bin .lss false (.t 19) (.t 25)))]) (.cond (.t 26) .skip (.exit 2))) (.seq k_law06_Back_0 (.ops false [(.op (some 27) (.mov (.t 6))), (.op (some 28) (.bin .add false (.t 27) (.c (.i 1)))), (.op (some 6) (.mov (.t 28)))])))
abbrev k_law06_Back_2 : SC := (.block 2 (.loop k_law06_Back_1))
abbrev k_law06_Back_3 : SC := (.seq (.ops false [(.op (some 6) (.mov (.c (.i 0))))]) k_law06_Back_2)
abbrev k_law06_Back_4 : SC := (.seq k_law06_Back_3 (.ops false [(.op (some 42) (.mov (.t 3))), (.op (some 43) (.ld 2 true (.t 5))), (.op (some 44) (.bsl 2 [(.t 43)])), (.op (some 45) (.app 2 40 (.t 42) (.t 44))), (.op (some 3) (.mov (.t 45)))]))
abbrev k_law06_Back_5 : SC := (.block 1 (.seq (.ops false [(.op (some 13) (.mov (.t 0))), (.op (some 14) (.mov (.t 4))), (.op (some 15) (.ia 2 (.t 13) (.t 14))), (.op (some 16) (.fa 0 (.t 15))), (.op (some 17) (.ld 1 false (.t 16))), (.op (some 18) (.build [(.s []), .emp] [(0, (1, (.t 17)))])), (.op (some 5) (.alloc [(.s []), .emp])), (.op none (.st 2 (.t 5) (.t 18)))]) k_law06_Back_4))
abbrev k_law06_Back_6 : SC := (.seq k_law06_Back_5 (.ops false [(.op (some 11) (.mov (.t 4))), (.op (some 12) (.bin .add false (.t 11) (.c (.i 1)))), (.op (some 4) (.mov (.t 12)))]))
abbrev k_law06_Back_7 : SC := (.seq (.seq (.ops false [(.op (some 7) (.mov (.t 4))), (.op (some 8) (.mov (.t 0))), (.op (some 9) (.len false (.t 8))), (.op (some 10) (.bin .lss false (.t 7) (.t 9)))]) (.cond (.t 10) .skip (.exit 0))) k_law06_Back_6)
abbrev k_law06_Back_8 : SC := (.block 0 (.loop k_law06_Back_7))
abbrev k_law06_Back_9 : SC := (.seq (.ops false [(.op (some 4) (.mov (.c (.i 0))))]) k_law06_Back_8)
abbrev k_law06_Back_10 : SC := (.seq k_law06_Back_9 (.seq (.ops false [(.op (some 46) (.mov (.t 3))), (.op (some 2) (.mov (.t 46)))]) .ret))
abbrev k_law06_Back_11 : SC := (.seq (.ops false [(.op (some 3) (.mov (.c .emp)))]) k_law06_Back_10)
abbrev k_law06_Back : SC := (.seq (.ops false [(.op (some 2) (.mov (.c .emp)))]) k_law06_Back_11)
abbrev k_law32_Back_0 : SC := (.seq (.block 1 (.ops true [(.op (some 16) (.fa 1 (.t 3))), (.op (some 17) (.ld 1 false (.t 16))), (.op (some 18) (.fa 1 (.t 1))), (.op (some 19) (.ld 1 false (.t 18))), (.op (some 20) (.mov (.t 4))), (.op (some 21) (.ia 3 (.t 19) (.t 20))), (.op (some 22) (.ld 3 true (.t 21))), (.op (some 23) (.bsl 3 [(.t 22)])), (.op (some 24) (.app 3 24 (.t 17) (.t 23))), (.op (some 25) (.fa 1 (.t 3))), (.op none (.st 1 (.t 25) (.t 24)))])) (.ops false [(.op (some 14) (.mov (.t 4))), (.op (some 15) (.bin .add false (.t 14) (.c (.i 1)))), (.op (some 4) (.mov (.t 15)))]))
abbrev k_law32_Back_1 : SC := (.seq (.seq (.ops false [(.op (some 9) (.mov (.t 4))), (.op (some 10) (.fa 1 (.t 1))), (.op (some 11) (.ld 1 false (.t 10))), (.op (some 12) (.len false (.t 11))), (.op (some 13) (.bin .lss false (.t 9) (.t 12)))]) (.cond (.t 13) .skip (.exit 0))) k_law32_Back_0)
abbrev k_law32_Back_2 : SC := (.block 0 (.loop k_law32_Back_1))
abbrev k_law32_Back_3 : SC := (.seq (.ops false [(.op (some 4) (.mov (.c (.i 0))))]) k_law32_Back_2)
abbrev k_law32_Back_4 : SC := (.seq k_law32_Back_3 (.seq (.ops false [(.op (some 26) (.ld 2 true (.t 3))), (.op none (.st 2 (.t 2) (.t 26)))]) .ret))
abbrev k_law32_Back_5 : SC := (.seq (.ops false [(.op (some 5) (.fa 0 (.t 1))), (.op (some 6) (.ld 1 false (.t 5))), (.op (some 7) (.call 31 [(.t 6)])), (.op (some 8) (.build [.emp, .emp] [(0, (1, (.t 7)))])), (.op (some 3) (.alloc [.emp, .emp])), (.op none (.st 2 (.t 3) (.t 8)))]) k_law32_Back_4)
abbrev k_law32_Back : SC := (.seq (.ops false [(.op (some 1) (.box (.t 0))), (.op (some 2) (.alloc [.emp, .emp]))]) k_law32_Back_5)
abbrev k_ref06_Same_0 : SC := (.ops true [(.op (some 18) (.mov (.t 0))), (.op (some 19) (.mov (.t 5))), (.op (some 20) (.ia 2 (.t 18) (.t 19))), (.op (some 21) (.fa 0 (.t 20))), (.op (some 22) (.ld 1 false (.t 21))), (.op (some 23) (.mov (.t 1))), (.op (some 24) (.mov (.t 5))), (.op (some 25) (.ia 2 (.t 23) (.t 24))), (.op (some 26) (.fa 0 (.t 25))), (.op (some 27) (.ld 1 false (.t 26))), (.op (some 28) (.bin .neq false (.t 22) (.t 27))), (.op (some 29) (.mov (.t 28))), (.grp 29 false [⟨(some 30), (.mov (.t 0))⟩, ⟨(some 31), (.mov (.t 5))⟩, ⟨(some 32), (.ia 2 (.t 30) (.t 31))⟩, ⟨(some 33), (.fa 1 (.t 32))⟩, ⟨(some 34), (.ld 1 false (.t 33))⟩, ⟨(some 35), (.len false (.t 34))⟩, ⟨(some 36), (.mov (.t 1))⟩, ⟨(some 37), (.mov (.t 5))⟩, ⟨(some 38), (.ia 2 (.t 36) (.t 37))⟩, ⟨(some 39), (.fa 1 (.t 38))⟩, ⟨(some 40), (.ld 1 false (.t 39))⟩, ⟨(some 41), (.len false (.t 40))⟩, ⟨(some 42), (.bin .neq false (.t 35) (.t 41))⟩]), (.op (some 43) (.pick (.t 29) (.c (.b true)) (.t 42)))])
abbrev k_ref06_Same_1 : SC := (.ops true [(.op (some 54) (.mov (.t 0))), (.op (some 55) (.mov (.t 5))), (.op (some 56) (.ia 2 (.t 54) (.t 55))), (.op (some 57) (.fa 1 (.t 56))), (.op (some 58) (.ld 1 false (.t 57))), (.op (some 59) (.mov (.t 6))), (.op (some 60) (.ia 2 (.t 58) (.t 59))), (.op (some 61) (.ld 2 true (.t 60))), (.op (some 62) (.mov (.t 1))), (.op (some 63) (.mov (.t 5))), (.op (some 64) (.ia 2 (.t 62) (.t 63))), (.op (some 65) (.fa 1 (.t 64))), (.op (some 66) (.ld 1 false (.t 65))), (.op (some 67) (.mov (.t 6))), (.op (some 68) (.ia 2 (.t 66) (.t 67))), (.op (some 69) (.ld 2 true (.t 68))), (.op (some 70) (.eqs true [(0, .s), (1, (.i .u8))] (.t 61) (.t 69)))])
abbrev k_ref06_Same_2 : SC := (.seq (.seq (.ops false [(.op (some 44) (.mov (.t 6))), (.op (some 45) (.mov (.t 0))), (.op (some 46) (.mov (.t 5))), (.op (some 47) (.ia 2 (.t 45) (.t 46))), (.op (some 48) (.fa 1 (.t 47))), (.op (some 49) (.ld 1 false (.t 48))), (.op (some 50) (.len false (.t 49))), (.op (some 51) (.bin .lss false (.t 44) (.t 50)))]) (.cond (.t 51) .skip (.exit 2))) (.seq (.block 3 (.seq k_ref06_Same_1 (.cond (.t 70) (.seq (.ops false [(.op (some 4) (.mov (.c (.b false))))]) .ret) .skip))) (.ops false [(.op (some 52) (.mov (.t 6))), (.op (some 53) (.bin .add false (.t 52) (.c (.i 1)))), (.op (some 6) (.mov (.t 53)))])))
abbrev k_ref06_Same_3 : SC := (.block 2 (.loop k_ref06_Same_2))
abbrev k_ref06_Same_4 : SC := (.seq (.ops false [(.op (some 6) (.mov (.c (.i 0))))]) k_ref06_Same_3)
abbrev k_ref06_Same_5 : SC := (.block 1 (.seq (.seq k_ref06_Same_0 (.cond (.t 43) (.seq (.ops false [(.op (some 4) (.mov (.c (.b false))))]) .ret) .skip)) k_ref06_Same_4))
abbrev k_ref06_Same_6 : SC := (.seq k_ref06_Same_5 (.ops false [(.op (some 16) (.mov (.t 5))), (.op (some 17) (.bin .add false (.t 16) (.c (.i 1)))), (.op (some 5) (.mov (.t 17)))]))
abbrev k_ref06_Same_7 : SC := (.seq (.seq (.ops false [(.op (some 12) (.mov (.t 5))), (.op (some 13) (.mov (.t 0))), (.op (some 14) (.len false (.t 13))), (.op (some 15) (.bin .lss false (.t 12) (.t 14)))]) (.cond (.t 15) .skip (.exit 0))) k_ref06_Same_6)
abbrev k_ref06_Same_8 : SC := (.block 0 (.loop k_ref06_Same_7))
abbrev k_ref06_Same_9 : SC := (.seq (.ops false [(.op (some 5) (.mov (.c (.i 0))))]) k_ref06_Same_8)
abbrev k_ref06_Same_10 : SC := (.seq k_ref06_Same_9 (.seq (.ops false [(.op (some 4) (.mov (.c (.b true))))]) .ret))
abbrev k_ref06_Same_11 : SC := (.seq (.seq (.ops false [(.op (some 7) (.mov (.t 0))), (.op (some 8) (.len false (.t 7))), (.op (some 9) (.mov (.t 1))), (.op (some 10) (.len false (.t 9))), (.op (some 11) (.bin .neq false (.t 8) (.t 10)))]) (.cond (.t 11) (.seq (.ops false [(.op (some 4) (.mov (.c (.b false))))]) .ret) .skip)) k_ref06_Same_10)
abbrev k_ref06_Same : SC := (.seq (.ops false [(.op (some 4) (.mov (.c (.b false))))]) k_ref06_Same_11)
abbrev k_ref32_Same_0 : SC := (.ops false [(.op (some 6) (.fa 0 (.t 2))), (.op (some 7) (.ld 1 false (.t 6))), (.op (some 8) (.fa 0 (.t 3))), (.op (some 9) (.ld 1 false (.t 8))), (.op (some 10) (.call 30 [(.t 7), (.t 9)])), (.op (some 11) (.un .not (.t 10))), (.op (some 12) (.mov (.t 11))), (.grp 12 false [⟨(some 13), (.fa 1 (.t 2))⟩, ⟨(some 14), (.ld 1 false (.t 13))⟩, ⟨(some 15), (.len false (.t 14))⟩, ⟨(some 16), (.fa 1 (.t 3))⟩, ⟨(some 17), (.ld 1 false (.t 16))⟩, ⟨(some 18), (.len false (.t 17))⟩, ⟨(some 19), (.bin .neq false (.t 15) (.t 18))⟩]), (.op (some 20) (.pick (.t 12) (.c (.b true)) (.t 19)))])
abbrev k_ref32_Same_1 : SC := (.block 1 (.seq (.ops true [(.op (some 28) (.fa 1 (.t 2))), (.op (some 29) (.ld 1 false (.t 28))), (.op (some 30) (.mov (.t 5))), (.op (some 31) (.ia 3 (.t 29) (.t 30))), (.op (some 32) (.ld 3 true (.t 31))), (.op (some 33) (.fa 1 (.t 3))), (.op (some 34) (.ld 1 false (.t 33))), (.op (some 35) (.mov (.t 5))), (.op (some 36) (.ia 3 (.t 34) (.t 35))), (.op (some 37) (.ld 3 true (.t 36))), (.op (some 38) (.eqs true [(0, (.i .i64)), (1, (.i .i64)), (2, .b)] (.t 32) (.t 37)))]) (.cond (.t 38) (.seq (.ops false [(.op (some 4) (.mov (.c (.b false))))]) .ret) .skip)))
abbrev k_ref32_Same_2 : SC := (.seq (.seq (.ops false [(.op (some 21) (.mov (.t 5))), (.op (some 22) (.fa 1 (.t 2))), (.op (some 23) (.ld 1 false (.t 22))), (.op (some 24) (.len false (.t 23))), (.op (some 25) (.bin .lss false (.t 21) (.t 24)))]) (.cond (.t 25) .skip (.exit 0))) (.seq k_ref32_Same_1 (.ops false [(.op (some 26) (.mov (.t 5))), (.op (some 27) (.bin .add false (.t 26) (.c (.i 1)))), (.op (some 5) (.mov (.t 27)))])))
abbrev k_ref32_Same_3 : SC := (.block 0 (.loop k_ref32_Same_2))
abbrev k_ref32_Same_4 : SC := (.seq (.ops false [(.op (some 5) (.mov (.c (.i 0))))]) k_ref32_Same_3)
abbrev k_ref32_Same_5 : SC := (.seq k_ref32_Same_4 (.seq (.ops false [(.op (some 4) (.mov (.c (.b true))))]) .ret))
abbrev k_ref32_Same_6 : SC := (.seq (.seq k_ref32_Same_0 (.cond (.t 20) (.seq (.ops false [(.op (some 4) (.mov (.c (.b false))))]) .ret) .skip)) k_ref32_Same_5)
abbrev k_ref32_Same : SC := (.seq (.ops false [(.op (some 2) (.box (.t 0))), (.op (some 3) (.box (.t 1))), (.op (some 4) (.mov (.c (.b false))))]) k_ref32_Same_6)
abbrev k_law04_Small : SC := (.seq (.ops false [(.op (some 1) (.box (.t 0))), (.op (some 2) (.mov (.c (.i 0))))]) (.seq (.ops false [(.op (some 3) (.fa 3 (.t 1))), (.op (some 4) (.ld 1 false (.t 3))), (.op (some 5) (.len true (.t 4))), (.op (some 6) (.bin .sub false (.t 5) (.c (.i 100)))), (.op (some 7) (.raw (.call ⟨(.builtin .max), #[(.const (.int .i64 0)), (.tmp 6)], #[3, 3]⟩) 3)), (.op (some 2) (.mov (.t 7)))]) .ret))
abbrev k_law07_Over_0 : SC := (.ops false [(.op (some 17) (.mov (.t 0))), (.op (some 18) (.mov (.t 5))), (.op (some 19) (.ia 5 (.t 17) (.t 18))), (.op (some 20) (.fa 3 (.t 19))), (.op (some 21) (.ld 1 false (.t 20))), (.op (some 22) (.len true (.t 21))), (.op (some 23) (.bin .gtr false (.t 22) (.c (.i 40)))), (.op (some 24) (.mov (.t 23))), (.grp 24 false [⟨(some 25), (.mov (.t 0))⟩, ⟨(some 26), (.mov (.t 5))⟩, ⟨(some 27), (.ia 5 (.t 25) (.t 26))⟩, ⟨(some 28), (.fa 4 (.t 27))⟩, ⟨(some 29), (.ld 1 false (.t 28))⟩, ⟨(some 30), (.len false (.t 29))⟩, ⟨(some 31), (.bin .gtr false (.t 30) (.c (.i 12)))⟩]), (.op (some 32) (.pick (.t 24) (.c (.b true)) (.t 31)))])
abbrev k_law07_Over_1 : SC := (.seq (.block 3 (.seq (.ops false [(.op (some 43) (.mov (.t 0))), (.op (some 44) (.mov (.t 5))), (.op (some 45) (.ia 5 (.t 43) (.t 44))), (.op (some 46) (.fa 4 (.t 45))), (.op (some 47) (.ld 1 false (.t 46))), (.op (some 48) (.mov (.t 6))), (.op (some 49) (.ia 4 (.t 47) (.t 48))), (.op (some 50) (.ld 4 true (.t 49))), (.op (some 51) (.call 32 [(.t 50)])), (.op (some 52) (.bin .gtr false (.t 51) (.c (.i 0))))]) (.cond (.t 52) (.seq (.ops false [(.op (some 4) (.mov (.c (.i 1))))]) .ret) .skip))) (.ops false [(.op (some 41) (.mov (.t 6))), (.op (some 42) (.bin .add false (.t 41) (.c (.i 1)))), (.op (some 6) (.mov (.t 42)))]))
abbrev k_law07_Over_2 : SC := (.seq (.seq (.ops false [(.op (some 33) (.mov (.t 6))), (.op (some 34) (.mov (.t 0))), (.op (some 35) (.mov (.t 5))), (.op (some 36) (.ia 5 (.t 34) (.t 35))), (.op (some 37) (.fa 4 (.t 36))), (.op (some 38) (.ld 1 false (.t 37))), (.op (some 39) (.len false (.t 38))), (.op (some 40) (.bin .lss false (.t 33) (.t 39)))]) (.cond (.t 40) .skip (.exit 2))) k_law07_Over_1)
abbrev k_law07_Over_3 : SC := (.block 2 (.loop k_law07_Over_2))
abbrev k_law07_Over_4 : SC := (.seq (.ops false [(.op (some 6) (.mov (.c (.i 0))))]) k_law07_Over_3)
abbrev k_law07_Over_5 : SC := (.block 1 (.seq (.seq k_law07_Over_0 (.cond (.t 32) (.seq (.ops false [(.op (some 4) (.mov (.c (.i 1))))]) .ret) .skip)) k_law07_Over_4))
abbrev k_law07_Over_6 : SC := (.seq k_law07_Over_5 (.ops false [(.op (some 15) (.mov (.t 5))), (.op (some 16) (.bin .add false (.t 15) (.c (.i 1)))), (.op (some 5) (.mov (.t 16)))]))
abbrev k_law07_Over_7 : SC := (.seq (.seq (.ops false [(.op (some 11) (.mov (.t 5))), (.op (some 12) (.mov (.t 0))), (.op (some 13) (.len false (.t 12))), (.op (some 14) (.bin .lss false (.t 11) (.t 13)))]) (.cond (.t 14) .skip (.exit 0))) k_law07_Over_6)
abbrev k_law07_Over_8 : SC := (.block 0 (.loop k_law07_Over_7))
abbrev k_law07_Over_9 : SC := (.seq (.ops false [(.op (some 5) (.mov (.c (.i 0))))]) k_law07_Over_8)
abbrev k_law07_Over_10 : SC := (.seq k_law07_Over_9 (.seq (.ops false [(.op (some 4) (.mov (.c (.i 0))))]) .ret))
abbrev k_law07_Over_11 : SC := (.seq (.seq (.ops false [(.op (some 7) (.mov (.t 0))), (.op (some 8) (.len false (.t 7))), (.op (some 9) (.mov (.t 1))), (.op (some 10) (.bin .gtr false (.t 8) (.t 9)))]) (.cond (.t 10) (.seq (.ops false [(.op (some 4) (.mov (.c (.i 1))))]) .ret) .skip)) k_law07_Over_10)
abbrev k_law07_Over : SC := (.seq (.ops false [(.op (some 4) (.mov (.c (.i 0))))]) k_law07_Over_11)
abbrev k_law06_Vals_0 : SC := (.seq (.seq (.ops false [(.op (some 5) (.mov (.t 4))), (.op (some 6) (.mov (.t 0))), (.op (some 7) (.len false (.t 6))), (.op (some 8) (.bin .lss false (.t 5) (.t 7)))]) (.cond (.t 8) .skip (.exit 0))) (.seq (.block 1 (.ops false [(.op (some 11) (.mov (.t 3))), (.op (some 12) (.mov (.t 0))), (.op (some 13) (.mov (.t 4))), (.op (some 14) (.ia 4 (.t 12) (.t 13))), (.op (some 15) (.ld 4 true (.t 14))), (.op (some 16) (.bsl 4 [(.t 15)])), (.op (some 17) (.app 4 40 (.t 11) (.t 16))), (.op (some 3) (.mov (.t 17)))])) (.ops false [(.op (some 9) (.mov (.t 4))), (.op (some 10) (.bin .add false (.t 9) (.c (.i 1)))), (.op (some 4) (.mov (.t 10)))])))
abbrev k_law06_Vals_1 : SC := (.block 0 (.loop k_law06_Vals_0))
abbrev k_law06_Vals_2 : SC := (.seq (.ops false [(.op (some 4) (.mov (.c (.i 0))))]) k_law06_Vals_1)
abbrev k_law06_Vals_3 : SC := (.seq k_law06_Vals_2 (.seq (.ops false [(.op (some 18) (.mov (.t 3))), (.op (some 2) (.mov (.t 18)))]) .ret))
abbrev k_law06_Vals_4 : SC := (.seq (.ops false [(.op (some 3) (.mov (.c .emp)))]) k_law06_Vals_3)
abbrev k_law06_Vals : SC := (.seq (.ops false [(.op (some 2) (.mov (.c .emp)))]) k_law06_Vals_4)
abbrev k_law07_Own_0 : SC := (.ops true [(.op (some 3) (.fa 0 (.t 1))), (.op (some 4) (.ld 1 false (.t 3))), (.op (some 5) (.fa 1 (.t 1))), (.op (some 6) (.ld 1 false (.t 5))), (.op (some 7) (.fa 2 (.t 1))), (.op (some 8) (.ld 1 false (.t 7))), (.op (some 9) (.fa 3 (.t 1))), (.op (some 10) (.ld 1 false (.t 9))), (.op (some 11) (.fa 4 (.t 1))), (.op (some 12) (.ld 1 false (.t 11))), (.op (some 13) (.call 33 [(.t 12)])), (.op (some 14) (.build [(.i 0), (.i 0), (.i 0), (.s []), .emp] [(0, (1, (.t 4))), (1, (1, (.t 6))), (2, (1, (.t 8))), (3, (1, (.t 10))), (4, (1, (.t 13)))])), (.op none (.st 5 (.t 2) (.t 14)))])
abbrev k_law07_Own : SC := (.seq (.ops false [(.op (some 1) (.box (.t 0))), (.op (some 2) (.alloc [(.i 0), (.i 0), (.i 0), (.s []), .emp]))]) (.seq k_law07_Own_0 .ret))
abbrev k_ref06_Find_0 : SC := (.block 1 (.seq (.ops false [(.op (some 13) (.mov (.t 0))), (.op (some 14) (.mov (.t 6))), (.op (some 15) (.ia 2 (.t 13) (.t 14))), (.op (some 16) (.fa 0 (.t 15))), (.op (some 17) (.ld 1 false (.t 16))), (.op (some 18) (.mov (.t 1))), (.op (some 19) (.bin .eql false (.t 17) (.t 18)))]) (.cond (.t 19) (.seq (.ops false [(.op (some 20) (.mov (.t 0))), (.op (some 21) (.mov (.t 6))), (.op (some 22) (.ia 2 (.t 20) (.t 21))), (.op (some 23) (.ld 2 true (.t 22))), (.op none (.st 2 (.t 4) (.t 23))), (.op (some 5) (.mov (.c (.b true))))]) .ret) .skip)))
abbrev k_ref06_Find_1 : SC := (.seq (.seq (.ops false [(.op (some 7) (.mov (.t 6))), (.op (some 8) (.mov (.t 0))), (.op (some 9) (.len false (.t 8))), (.op (some 10) (.bin .lss false (.t 7) (.t 9)))]) (.cond (.t 10) .skip (.exit 0))) (.seq k_ref06_Find_0 (.ops false [(.op (some 11) (.mov (.t 6))), (.op (some 12) (.bin .add false (.t 11) (.c (.i 1)))), (.op (some 6) (.mov (.t 12)))])))
abbrev k_ref06_Find_2 : SC := (.block 0 (.loop k_ref06_Find_1))
abbrev k_ref06_Find_3 : SC := (.seq (.ops false [(.op (some 6) (.mov (.c (.i 0))))]) k_ref06_Find_2)
abbrev k_ref06_Find_4 : SC := (.seq k_ref06_Find_3 (.seq (.ops false [(.op (some 24) (.build [(.s []), .emp] [])), (.op none (.st 2 (.t 4) (.t 24))), (.op (some 5) (.mov (.c (.b false))))]) .ret))
abbrev k_ref06_Find : SC := (.seq (.ops false [(.op (some 4) (.alloc [(.s []), .emp])), (.op (some 5) (.mov (.c (.b false))))]) k_ref06_Find_4)
abbrev k_ref03_Exp : SC := (.seq (.ops false [(.op (some 2) (.mov (.c (.i 0))))]) (.seq (.ops false [(.op (some 3) (.mov (.t 0))), (.op (some 4) (.bin .quo false (.t 3) (.c (.v (.int .u64 4503599627370496))))), (.op (some 5) (.bin .rem false (.t 4) (.c (.v (.int .u64 2048))))), (.op (some 6) (.cvi .i64 (.t 5))), (.op (some 2) (.mov (.t 6)))]) .ret))
abbrev k_ref03_Frac : SC := (.seq (.ops false [(.op (some 2) (.mov (.c (.v (.int .u64 0)))))]) (.seq (.ops false [(.op (some 3) (.mov (.t 0))), (.op (some 4) (.bin .rem false (.t 3) (.c (.v (.int .u64 4503599627370496))))), (.op (some 2) (.mov (.t 4)))]) .ret))
abbrev k_ref03_Kind_0 : SC := (.seq (.seq (.ops false [(.op (some 14) (.mov (.t 0))), (.op (some 15) (.call 92 [(.t 14)])), (.op (some 16) (.bin .neq false (.t 15) (.c (.i 0))))]) (.cond (.t 16) (.seq (.ops false [(.op (some 2) (.mov (.c (.v (.int .u8 3)))))]) .ret) .skip)) (.seq (.seq (.ops false [(.op (some 17) (.mov (.t 0))), (.op (some 18) (.call 93 [(.t 17)])), (.op (some 19) (.bin .neq false (.t 18) (.c (.v (.int .u64 0)))))]) (.cond (.t 19) (.seq (.ops false [(.op (some 2) (.mov (.c (.v (.int .u8 2)))))]) .ret) .skip)) (.seq (.ops false [(.op (some 2) (.mov (.c (.v (.int .u8 1)))))]) .ret)))
abbrev k_ref03_Kind_1 : SC := (.seq (.seq (.ops false [(.op (some 3) (.mov (.t 0))), (.op (some 4) (.call 92 [(.t 3)])), (.op (some 5) (.bin .eql false (.t 4) (.c (.i 2047)))), (.op (some 6) (.mov (.t 5))), (.grp 6 true [⟨(some 7), (.mov (.t 0))⟩, ⟨(some 8), (.call 93 [(.t 7)])⟩, ⟨(some 9), (.bin .neq false (.t 8) (.c (.v (.int .u64 0))))⟩]), (.op (some 10) (.pick (.t 6) (.t 9) (.c (.b false))))]) (.cond (.t 10) (.seq (.ops false [(.op (some 2) (.mov (.c (.v (.int .u8 5)))))]) .ret) .skip)) (.seq (.seq (.ops false [(.op (some 11) (.mov (.t 0))), (.op (some 12) (.call 92 [(.t 11)])), (.op (some 13) (.bin .eql false (.t 12) (.c (.i 2047))))]) (.cond (.t 13) (.seq (.ops false [(.op (some 2) (.mov (.c (.v (.int .u8 4)))))]) .ret) .skip)) k_ref03_Kind_0))
abbrev k_ref03_Kind : SC := (.seq (.ops false [(.op (some 2) (.mov (.c (.v (.int .u8 0)))))]) k_ref03_Kind_1)
abbrev k_ref03_Clean : SC := (.seq (.ops false [(.op (some 2) (.mov (.c (.v (.int .u64 0)))))]) (.seq (.seq (.ops false [(.op (some 3) (.mov (.t 0))), (.op (some 4) (.call 87 [(.t 3)])), (.op (some 5) (.bin .eql false (.t 4) (.c (.v (.int .u8 5)))))]) (.cond (.t 5) (.seq (.ops false [(.op (some 2) (.mov (.c (.v (.int .u64 9221120237041090560)))))]) .ret) .skip)) (.seq (.ops false [(.op (some 6) (.mov (.t 0))), (.op (some 2) (.mov (.t 6)))]) .ret)))
abbrev k_ref04_Check_0 : SC := (.ops false [(.op (some 11) (.fa 0 (.t 1))), (.op (some 12) (.ld 1 false (.t 11))), (.op (some 13) (.bin .eql false (.t 12) (.c (.v (.int .u8 1))))), (.op (some 14) (.mov (.t 13))), (.grp 14 true [⟨(some 15), (.fa 1 (.t 1))⟩, ⟨(some 16), (.ld 1 false (.t 15))⟩, ⟨(some 17), (.bin .lss false (.t 16) (.c (.i (-4611686018427387904))))⟩, ⟨(some 18), (.mov (.t 17))⟩]), (.grp 18 false [⟨(some 19), (.fa 1 (.t 1))⟩, ⟨(some 20), (.ld 1 false (.t 19))⟩, ⟨(some 21), (.bin .gtr false (.t 20) (.c (.i 4611686018427387904)))⟩]), (.grp 14 true [⟨(some 22), (.pick (.t 18) (.c (.b true)) (.t 21))⟩]), (.op (some 23) (.pick (.t 14) (.t 22) (.c (.b false)))), (.op (some 24) (.mov (.t 23))), (.grp 24 false [⟨(some 25), (.fa 0 (.t 1))⟩, ⟨(some 26), (.ld 1 false (.t 25))⟩, ⟨(some 27), (.bin .eql false (.t 26) (.c (.v (.int .u8 2))))⟩, ⟨(some 28), (.mov (.t 27))⟩]), (.grp 28 true [⟨(some 29), (.fa 1 (.t 1))⟩, ⟨(some 30), (.ld 1 false (.t 29))⟩, ⟨(some 31), (.bin .lss false (.t 30) (.c (.i 0)))⟩, ⟨(some 32), (.mov (.t 31))⟩]), (.grp 32 false [⟨(some 33), (.fa 1 (.t 1))⟩, ⟨(some 34), (.ld 1 false (.t 33))⟩, ⟨(some 35), (.bin .gtr false (.t 34) (.c (.i 1)))⟩]), (.grp 28 true [⟨(some 36), (.pick (.t 32) (.c (.b true)) (.t 35))⟩]), (.grp 24 false [⟨(some 37), (.pick (.t 28) (.t 36) (.c (.b false)))⟩]), (.op (some 38) (.pick (.t 24) (.c (.b true)) (.t 37)))])
abbrev k_ref04_Check_1 : SC := (.ops false [(.op (some 59) (.fa 0 (.t 1))), (.op (some 60) (.ld 1 false (.t 59))), (.op (some 61) (.bin .gtr false (.t 60) (.c (.v (.int .u8 2))))), (.op (some 62) (.mov (.t 61))), (.grp 62 true [⟨(some 63), (.fa 1 (.t 1))⟩, ⟨(some 64), (.ld 1 false (.t 63))⟩, ⟨(some 65), (.bin .neq false (.t 64) (.c (.i 0)))⟩]), (.op (some 66) (.pick (.t 62) (.t 65) (.c (.b false)))), (.op (some 67) (.mov (.t 66))), (.grp 67 false [⟨(some 68), (.fa 0 (.t 1))⟩, ⟨(some 69), (.ld 1 false (.t 68))⟩, ⟨(some 70), (.bin .neq false (.t 69) (.c (.v (.int .u8 3))))⟩, ⟨(some 71), (.mov (.t 70))⟩]), (.grp 71 true [⟨(some 72), (.fa 2 (.t 1))⟩, ⟨(some 73), (.ld 1 false (.t 72))⟩, ⟨(some 74), (.bin .neq false (.t 73) (.c (.v (.int .u64 0))))⟩]), (.grp 67 false [⟨(some 75), (.pick (.t 71) (.t 74) (.c (.b false)))⟩]), (.op (some 76) (.pick (.t 67) (.c (.b true)) (.t 75))), (.op (some 77) (.mov (.t 76))), (.grp 77 false [⟨(some 78), (.fa 0 (.t 1))⟩, ⟨(some 79), (.ld 1 false (.t 78))⟩, ⟨(some 80), (.bin .neq false (.t 79) (.c (.v (.int .u8 4))))⟩, ⟨(some 81), (.mov (.t 80))⟩]), (.grp 81 true [⟨(some 82), (.fa 3 (.t 1))⟩, ⟨(some 83), (.ld 1 false (.t 82))⟩, ⟨(some 84), (.bin .neq false (.t 83) (.c (.s [])))⟩]), (.grp 77 false [⟨(some 85), (.pick (.t 81) (.t 84) (.c (.b false)))⟩]), (.op (some 86) (.pick (.t 77) (.c (.b true)) (.t 85)))])
abbrev k_ref04_Check_2 : SC := (.seq (.seq (.ops false [(.op (some 50) (.fa 0 (.t 1))), (.op (some 51) (.ld 1 false (.t 50))), (.op (some 52) (.bin .eql false (.t 51) (.c (.v (.int .u8 4))))), (.op (some 53) (.mov (.t 52))), (.grp 53 true [⟨(some 54), (.fa 3 (.t 1))⟩, ⟨(some 55), (.ld 1 false (.t 54))⟩, ⟨(some 56), (.len true (.t 55))⟩, ⟨(some 57), (.bin .gtr false (.t 56) (.c (.i 24)))⟩]), (.op (some 58) (.pick (.t 53) (.t 57) (.c (.b false))))]) (.cond (.t 58) (.seq (.ops false [(.op (some 2) (.mov (.c (.i 5))))]) .ret) .skip)) (.seq (.seq k_ref04_Check_1 (.cond (.t 86) (.seq (.ops false [(.op (some 2) (.mov (.c (.i 2))))]) .ret) .skip)) (.seq (.ops false [(.op (some 2) (.mov (.c (.i 0))))]) .ret)))
abbrev k_ref04_Check_3 : SC := (.seq (.ops true [(.op (some 39) (.fa 0 (.t 1))), (.op (some 40) (.ld 1 false (.t 39))), (.op (some 41) (.bin .eql false (.t 40) (.c (.v (.int .u8 3))))), (.op (some 42) (.mov (.t 41))), (.grp 42 true [⟨(some 43), (.fa 2 (.t 1))⟩, ⟨(some 44), (.ld 1 false (.t 43))⟩, ⟨(some 45), (.call 78 [(.t 44)])⟩, ⟨(some 46), (.fa 2 (.t 1))⟩, ⟨(some 47), (.ld 1 false (.t 46))⟩, ⟨(some 48), (.bin .neq false (.t 45) (.t 47))⟩]), (.op (some 49) (.pick (.t 42) (.t 48) (.c (.b false))))]) (.cond (.t 49) (.seq (.ops false [(.op (some 2) (.mov (.c (.i 4))))]) .ret) .skip))
abbrev k_ref04_Check_4 : SC := (.seq (.seq (.ops false [(.op (some 3) (.fa 0 (.t 1))), (.op (some 4) (.ld 1 false (.t 3))), (.op (some 5) (.bin .lss false (.t 4) (.c (.v (.int .u8 1))))), (.op (some 6) (.mov (.t 5))), (.grp 6 false [⟨(some 7), (.fa 0 (.t 1))⟩, ⟨(some 8), (.ld 1 false (.t 7))⟩, ⟨(some 9), (.bin .gtr false (.t 8) (.c (.v (.int .u8 4))))⟩]), (.op (some 10) (.pick (.t 6) (.c (.b true)) (.t 9)))]) (.cond (.t 10) (.seq (.ops false [(.op (some 2) (.mov (.c (.i 11))))]) .ret) .skip)) (.seq (.seq k_ref04_Check_0 (.cond (.t 38) (.seq (.ops false [(.op (some 2) (.mov (.c (.i 8))))]) .ret) .skip)) (.seq k_ref04_Check_3 k_ref04_Check_2)))
abbrev k_ref04_Check : SC := (.seq (.ops false [(.op (some 1) (.box (.t 0))), (.op (some 2) (.mov (.c (.i 0))))]) k_ref04_Check_4)
abbrev k_ref06_Fits_0 : SC := (.seq (.ops true [(.op (some 27) (.mov (.t 1))), (.op (some 28) (.mov (.t 5))), (.op (some 29) (.ia 4 (.t 27) (.t 28))), (.op (some 30) (.fa 0 (.t 29))), (.op (some 31) (.ld 1 false (.t 30))), (.op (some 32) (.fa 1 (.t 2))), (.op (some 33) (.ld 1 false (.t 32))), (.op (some 34) (.mov (.t 5))), (.op (some 35) (.ia 2 (.t 33) (.t 34))), (.op (some 36) (.fa 1 (.t 35))), (.op (some 37) (.ld 1 false (.t 36))), (.op (some 38) (.bin .neq false (.t 31) (.t 37)))]) (.cond (.t 38) (.seq (.ops false [(.op (some 4) (.mov (.c (.i 19))))]) .ret) .skip))
abbrev k_ref06_Fits_1 : SC := (.seq (.block 1 (.seq (.seq (.ops false [(.op (some 19) (.mov (.t 1))), (.op (some 20) (.mov (.t 5))), (.op (some 21) (.ia 4 (.t 19) (.t 20))), (.op (some 22) (.ld 4 true (.t 21))), (.op (some 23) (.call 67 [(.t 22)])), (.op (some 6) (.mov (.t 23)))]) (.seq (.ops false [(.op (some 24) (.mov (.t 6))), (.op (some 25) (.bin .neq false (.t 24) (.c (.i 0))))]) (.cond (.t 25) (.seq (.ops false [(.op (some 26) (.mov (.t 6))), (.op (some 4) (.mov (.t 26)))]) .ret) .skip))) k_ref06_Fits_0)) (.ops false [(.op (some 17) (.mov (.t 5))), (.op (some 18) (.bin .add false (.t 17) (.c (.i 1)))), (.op (some 5) (.mov (.t 18)))]))
abbrev k_ref06_Fits_2 : SC := (.seq (.seq (.ops false [(.op (some 13) (.mov (.t 5))), (.op (some 14) (.mov (.t 1))), (.op (some 15) (.len false (.t 14))), (.op (some 16) (.bin .lss false (.t 13) (.t 15)))]) (.cond (.t 16) .skip (.exit 0))) k_ref06_Fits_1)
abbrev k_ref06_Fits_3 : SC := (.block 0 (.loop k_ref06_Fits_2))
abbrev k_ref06_Fits_4 : SC := (.seq (.ops false [(.op (some 5) (.mov (.c (.i 0))))]) k_ref06_Fits_3)
abbrev k_ref06_Fits_5 : SC := (.seq k_ref06_Fits_4 (.seq (.ops false [(.op (some 4) (.mov (.c (.i 0))))]) .ret))
abbrev k_ref06_Fits_6 : SC := (.seq (.seq (.ops false [(.op (some 7) (.mov (.t 1))), (.op (some 8) (.len false (.t 7))), (.op (some 9) (.fa 1 (.t 2))), (.op (some 10) (.ld 1 false (.t 9))), (.op (some 11) (.len false (.t 10))), (.op (some 12) (.bin .neq false (.t 8) (.t 11)))]) (.cond (.t 12) (.seq (.ops false [(.op (some 4) (.mov (.c (.i 5))))]) .ret) .skip)) k_ref06_Fits_5)
abbrev k_ref06_Fits : SC := (.seq (.ops false [(.op (some 2) (.box (.t 0))), (.op (some 4) (.mov (.c (.i 0))))]) k_ref06_Fits_6)
abbrev k_ref07_Check_0 : SC := (.ops false [(.op (some 10) (.fa 0 (.t 3))), (.op (some 11) (.ld 1 false (.t 10))), (.op (some 12) (.bin .lss false (.t 11) (.c (.i 0)))), (.op (some 13) (.mov (.t 12))), (.grp 13 false [⟨(some 14), (.fa 0 (.t 3))⟩, ⟨(some 15), (.ld 1 false (.t 14))⟩, ⟨(some 16), (.bin .gtr false (.t 15) (.c (.i 1099511627776)))⟩]), (.op (some 17) (.pick (.t 13) (.c (.b true)) (.t 16))), (.op (some 18) (.mov (.t 17))), (.grp 18 false [⟨(some 19), (.fa 1 (.t 3))⟩, ⟨(some 20), (.ld 1 false (.t 19))⟩, ⟨(some 21), (.bin .lss false (.t 20) (.c (.i 0)))⟩]), (.op (some 22) (.pick (.t 18) (.c (.b true)) (.t 21))), (.op (some 23) (.mov (.t 22))), (.grp 23 false [⟨(some 24), (.fa 1 (.t 3))⟩, ⟨(some 25), (.ld 1 false (.t 24))⟩, ⟨(some 26), (.bin .geq false (.t 25) (.c (.i 16)))⟩]), (.op (some 27) (.pick (.t 23) (.c (.b true)) (.t 26))), (.op (some 28) (.mov (.t 27))), (.grp 28 false [⟨(some 29), (.fa 2 (.t 3))⟩, ⟨(some 30), (.ld 1 false (.t 29))⟩, ⟨(some 31), (.bin .lss false (.t 30) (.c (.i 0)))⟩]), (.op (some 32) (.pick (.t 28) (.c (.b true)) (.t 31))), (.op (some 33) (.mov (.t 32))), (.grp 33 false [⟨(some 34), (.fa 2 (.t 3))⟩, ⟨(some 35), (.ld 1 false (.t 34))⟩, ⟨(some 36), (.bin .gtr false (.t 35) (.c (.i 1099511627776)))⟩]), (.op (some 37) (.pick (.t 33) (.c (.b true)) (.t 36)))])
abbrev k_ref07_Check_1 : SC := (.seq (.ops false [(.op (some 39) (.mov (.t 0))), (.op (some 40) (.fa 3 (.t 3))), (.op (some 41) (.ld 1 false (.t 40))), (.op (some 42) (.call 52 [(.t 39), (.t 41)])), (.op (some 38) (.mov (.t 42))), (.op (some 43) (.ext 0 (.t 38))), (.op (some 44) (.ext 1 (.t 38))), (.op (some 5) (.alloc [(.s []), .emp])), (.op none (.st 2 (.t 5) (.t 43))), (.op (some 6) (.mov (.t 44)))]) (.seq (.seq (.ops false [(.op (some 45) (.mov (.t 6))), (.op (some 46) (.un .not (.t 45)))]) (.cond (.t 46) (.seq (.ops false [(.op (some 4) (.mov (.c (.i 6))))]) .ret) .skip)) (.seq (.ops false [(.op (some 47) (.ld 2 true (.t 5))), (.op (some 48) (.fa 4 (.t 3))), (.op (some 49) (.ld 1 false (.t 48))), (.op (some 50) (.call 53 [(.t 47), (.t 49)])), (.op (some 4) (.mov (.t 50)))]) .ret)))
abbrev k_ref07_Check : SC := (.seq (.ops false [(.op (some 3) (.box (.t 1))), (.op (some 4) (.mov (.c (.i 0))))]) (.seq (.seq (.ops false [(.op (some 7) (.mov (.t 0))), (.op (some 8) (.call 29 [(.t 7)])), (.op (some 9) (.bin .neq false (.t 8) (.c (.i 0))))]) (.cond (.t 9) (.seq (.ops false [(.op (some 4) (.mov (.c (.i 2))))]) .ret) .skip)) (.seq (.seq k_ref07_Check_0 (.cond (.t 37) (.seq (.ops false [(.op (some 4) (.mov (.c (.i 8))))]) .ret) .skip)) k_ref07_Check_1)))
abbrev k_ref32_open_0 : SC := (.seq (.seq (.ops false [(.op (some 5) (.mov (.t 1))), (.op (some 6) (.bin .lss false (.t 5) (.c (.i 0)))), (.op (some 7) (.mov (.t 6))), (.grp 7 false [⟨(some 8), (.mov (.t 1))⟩, ⟨(some 9), (.fa 1 (.t 2))⟩, ⟨(some 10), (.ld 1 false (.t 9))⟩, ⟨(some 11), (.len false (.t 10))⟩, ⟨(some 12), (.bin .geq false (.t 8) (.t 11))⟩]), (.op (some 13) (.pick (.t 7) (.c (.b true)) (.t 12)))]) (.cond (.t 13) (.seq (.ops false [(.op (some 4) (.mov (.c (.i 17))))]) .ret) .skip)) (.seq (.seq (.ops false [(.op (some 14) (.fa 1 (.t 2))), (.op (some 15) (.ld 1 false (.t 14))), (.op (some 16) (.mov (.t 1))), (.op (some 17) (.ia 3 (.t 15) (.t 16))), (.op (some 18) (.fa 2 (.t 17))), (.op (some 19) (.ld 1 false (.t 18)))]) (.cond (.t 19) (.seq (.ops false [(.op (some 4) (.mov (.c (.i 20))))]) .ret) .skip)) (.seq (.ops false [(.op (some 4) (.mov (.c (.i 0))))]) .ret)))
abbrev k_ref32_open : SC := (.seq (.ops false [(.op (some 2) (.box (.t 0))), (.op (some 4) (.mov (.c (.i 0))))]) k_ref32_open_0)
abbrev k_ref32_Why_0 : SC := (.seq (.seq (.ops true [(.op (some 31) (.fa 2 (.t 3))), (.op (some 32) (.ld 1 false (.t 31))), (.op (some 33) (.fa 1 (.t 2))), (.op (some 34) (.ld 1 false (.t 33))), (.op (some 35) (.fa 1 (.t 3))), (.op (some 36) (.ld 1 false (.t 35))), (.op (some 37) (.ia 3 (.t 34) (.t 36))), (.op (some 38) (.fa 1 (.t 37))), (.op (some 39) (.ld 1 false (.t 38))), (.op (some 40) (.bin .leq false (.t 32) (.t 39)))]) (.cond (.t 40) (.seq (.ops false [(.op (some 4) (.mov (.c (.i 12))))]) .ret) .skip)) (.seq (.ops false [(.op (some 4) (.mov (.c (.i 0))))]) .ret))
abbrev k_ref32_Why_1 : SC := (.seq (.seq (.ops true [(.op (some 21) (.fa 0 (.t 3))), (.op (some 22) (.ld 1 false (.t 21))), (.op (some 23) (.fa 1 (.t 2))), (.op (some 24) (.ld 1 false (.t 23))), (.op (some 25) (.fa 1 (.t 3))), (.op (some 26) (.ld 1 false (.t 25))), (.op (some 27) (.ia 3 (.t 24) (.t 26))), (.op (some 28) (.fa 0 (.t 27))), (.op (some 29) (.ld 1 false (.t 28))), (.op (some 30) (.bin .lss false (.t 22) (.t 29)))]) (.cond (.t 30) (.seq (.ops false [(.op (some 4) (.mov (.c (.i 13))))]) .ret) .skip)) k_ref32_Why_0)
abbrev k_ref32_Why_2 : SC := (.seq (.seq (.ops false [(.op (some 7) (.fa 0 (.t 2))), (.op (some 8) (.ld 1 false (.t 7))), (.op (some 9) (.ld 5 true (.t 3))), (.op (some 10) (.call 36 [(.t 8), (.t 9)])), (.op (some 5) (.mov (.t 10)))]) (.seq (.ops false [(.op (some 11) (.mov (.t 5))), (.op (some 12) (.bin .neq false (.t 11) (.c (.i 0))))]) (.cond (.t 12) (.seq (.ops false [(.op (some 13) (.mov (.t 5))), (.op (some 4) (.mov (.t 13)))]) .ret) .skip))) (.seq (.seq (.ops false [(.op (some 14) (.ld 2 true (.t 2))), (.op (some 15) (.fa 1 (.t 3))), (.op (some 16) (.ld 1 false (.t 15))), (.op (some 17) (.call 37 [(.t 14), (.t 16)])), (.op (some 6) (.mov (.t 17)))]) (.seq (.ops false [(.op (some 18) (.mov (.t 6))), (.op (some 19) (.bin .neq false (.t 18) (.c (.i 0))))]) (.cond (.t 19) (.seq (.ops false [(.op (some 20) (.mov (.t 6))), (.op (some 4) (.mov (.t 20)))]) .ret) .skip))) k_ref32_Why_1))
abbrev k_ref32_Why : SC := (.seq (.ops false [(.op (some 2) (.box (.t 0))), (.op (some 3) (.box (.t 1))), (.op (some 4) (.mov (.c (.i 0))))]) k_ref32_Why_2)
abbrev k_ref32_with_0 : SC := (.seq (.ops false [(.op (some 8) (.bsl 3 [])), (.op (some 9) (.fa 1 (.t 3))), (.op (some 10) (.ld 1 false (.t 9))), (.op (some 11) (.app 3 24 (.t 8) (.t 10))), (.op (some 7) (.mov (.t 11)))]) (.seq (.ops false [(.op (some 12) (.mov (.t 7))), (.op (some 13) (.mov (.t 1))), (.op (some 14) (.ld 3 true (.t 5))), (.op (some 15) (.ia 3 (.t 12) (.t 13))), (.op none (.st 3 (.t 15) (.t 14)))]) (.seq (.ops false [(.op (some 16) (.fa 0 (.t 3))), (.op (some 17) (.ld 1 false (.t 16))), (.op (some 18) (.mov (.t 7))), (.op (some 19) (.build [.emp, .emp] [(0, (1, (.t 17))), (1, (1, (.t 18)))])), (.op none (.st 2 (.t 6) (.t 19)))]) .ret)))
abbrev k_ref32_with : SC := (.seq (.ops false [(.op (some 3) (.box (.t 0))), (.op (some 5) (.box (.t 2))), (.op (some 6) (.alloc [.emp, .emp]))]) k_ref32_with_0)
abbrev k_ref32_Accept_0 : SC := (.ops true [(.op (some 14) (.ld 2 true (.t 2))), (.op (some 15) (.fa 1 (.t 3))), (.op (some 16) (.ld 1 false (.t 15))), (.op (some 17) (.fa 1 (.t 2))), (.op (some 18) (.ld 1 false (.t 17))), (.op (some 19) (.fa 1 (.t 3))), (.op (some 20) (.ld 1 false (.t 19))), (.op (some 21) (.ia 3 (.t 18) (.t 20))), (.op (some 22) (.fa 0 (.t 21))), (.op (some 23) (.ld 1 false (.t 22))), (.op (some 24) (.fa 2 (.t 3))), (.op (some 25) (.ld 1 false (.t 24))), (.op (some 26) (.build [(.i 0), (.i 0), (.b false)] [(0, (1, (.t 23))), (1, (1, (.t 25))), (2, (1, (.c (.b false))))])), (.op (some 27) (.call 40 [(.t 14), (.t 16), (.t 26)])), (.op none (.st 2 (.t 4) (.t 27))), (.op (some 5) (.mov (.c (.i 0))))])
abbrev k_ref32_Accept : SC := (.seq (.ops false [(.op (some 2) (.box (.t 0))), (.op (some 3) (.box (.t 1))), (.op (some 4) (.alloc [.emp, .emp])), (.op (some 5) (.mov (.c (.i 0))))]) (.seq (.seq (.ops false [(.op (some 7) (.ld 2 true (.t 2))), (.op (some 8) (.ld 5 true (.t 3))), (.op (some 9) (.call 15 [(.t 7), (.t 8)])), (.op (some 6) (.mov (.t 9)))]) (.seq (.ops false [(.op (some 10) (.mov (.t 6))), (.op (some 11) (.bin .neq false (.t 10) (.c (.i 0))))]) (.cond (.t 11) (.seq (.ops false [(.op (some 12) (.ld 2 true (.t 2))), (.op (some 13) (.mov (.t 6))), (.op none (.st 2 (.t 4) (.t 12))), (.op (some 5) (.mov (.t 13)))]) .ret) .skip))) (.seq k_ref32_Accept_0 .ret)))
abbrev k_ref32_Least_0 : SC := (.ops false [(.op (some 19) (.mov (.t 3))), (.op (some 20) (.fa 1 (.t 1))), (.op (some 21) (.ld 1 false (.t 20))), (.op (some 22) (.mov (.t 4))), (.op (some 23) (.ia 3 (.t 21) (.t 22))), (.op (some 24) (.fa 0 (.t 23))), (.op (some 25) (.ld 1 false (.t 24))), (.op (some 26) (.raw (.call ⟨(.builtin .min), #[(.tmp 19), (.tmp 25)], #[3, 3]⟩) 3)), (.op (some 3) (.mov (.t 26)))])
abbrev k_ref32_Least_1 : SC := (.seq (.seq (.ops false [(.op (some 5) (.mov (.t 4))), (.op (some 6) (.fa 1 (.t 1))), (.op (some 7) (.ld 1 false (.t 6))), (.op (some 8) (.len false (.t 7))), (.op (some 9) (.bin .lss false (.t 5) (.t 8)))]) (.cond (.t 9) .skip (.exit 0))) (.seq (.block 1 (.seq (.ops false [(.op (some 12) (.fa 1 (.t 1))), (.op (some 13) (.ld 1 false (.t 12))), (.op (some 14) (.mov (.t 4))), (.op (some 15) (.ia 3 (.t 13) (.t 14))), (.op (some 16) (.fa 2 (.t 15))), (.op (some 17) (.ld 1 false (.t 16))), (.op (some 18) (.un .not (.t 17)))]) (.cond (.t 18) k_ref32_Least_0 .skip))) (.ops false [(.op (some 10) (.mov (.t 4))), (.op (some 11) (.bin .add false (.t 10) (.c (.i 1)))), (.op (some 4) (.mov (.t 11)))])))
abbrev k_ref32_Least_2 : SC := (.block 0 (.loop k_ref32_Least_1))
abbrev k_ref32_Least_3 : SC := (.seq (.ops false [(.op (some 4) (.mov (.c (.i 0))))]) k_ref32_Least_2)
abbrev k_ref32_Least_4 : SC := (.seq k_ref32_Least_3 (.seq (.ops false [(.op (some 27) (.mov (.t 3))), (.op (some 2) (.mov (.t 27)))]) .ret))
abbrev k_ref32_Least_5 : SC := (.seq (.ops false [(.op (some 3) (.mov (.c (.i 1099511627777))))]) k_ref32_Least_4)
abbrev k_ref32_Least : SC := (.seq (.ops false [(.op (some 1) (.box (.t 0))), (.op (some 2) (.mov (.c (.i 0))))]) k_ref32_Least_5)
abbrev k_ref32_Advance_0 : SC := (.ops false [(.op (some 16) (.mov (.t 2))), (.op (some 17) (.fa 1 (.t 3))), (.op (some 18) (.ld 1 false (.t 17))), (.op (some 19) (.mov (.t 1))), (.op (some 20) (.ia 3 (.t 18) (.t 19))), (.op (some 21) (.fa 0 (.t 20))), (.op (some 22) (.ld 1 false (.t 21))), (.op (some 23) (.bin .lss false (.t 16) (.t 22))), (.op (some 24) (.mov (.t 23))), (.grp 24 false [⟨(some 25), (.mov (.t 2))⟩, ⟨(some 26), (.bin .gtr false (.t 25) (.c (.i 1099511627776)))⟩]), (.op (some 27) (.pick (.t 24) (.c (.b true)) (.t 26)))])
abbrev k_ref32_Advance_1 : SC := (.ops true [(.op (some 29) (.ld 2 true (.t 3))), (.op (some 30) (.mov (.t 1))), (.op (some 31) (.mov (.t 2))), (.op (some 32) (.fa 1 (.t 3))), (.op (some 33) (.ld 1 false (.t 32))), (.op (some 34) (.mov (.t 1))), (.op (some 35) (.ia 3 (.t 33) (.t 34))), (.op (some 36) (.fa 1 (.t 35))), (.op (some 37) (.ld 1 false (.t 36))), (.op (some 38) (.build [(.i 0), (.i 0), (.b false)] [(0, (1, (.t 31))), (1, (1, (.t 37))), (2, (1, (.c (.b false))))])), (.op (some 39) (.call 40 [(.t 29), (.t 30), (.t 38)])), (.op none (.st 2 (.t 6) (.t 39))), (.op (some 7) (.mov (.c (.i 0))))])
abbrev k_ref32_Advance_2 : SC := (.seq (.seq (.ops false [(.op (some 9) (.ld 2 true (.t 3))), (.op (some 10) (.mov (.t 1))), (.op (some 11) (.call 37 [(.t 9), (.t 10)])), (.op (some 8) (.mov (.t 11)))]) (.seq (.ops false [(.op (some 12) (.mov (.t 8))), (.op (some 13) (.bin .neq false (.t 12) (.c (.i 0))))]) (.cond (.t 13) (.seq (.ops false [(.op (some 14) (.ld 2 true (.t 3))), (.op (some 15) (.mov (.t 8))), (.op none (.st 2 (.t 6) (.t 14))), (.op (some 7) (.mov (.t 15)))]) .ret) .skip))) (.seq (.seq k_ref32_Advance_0 (.cond (.t 27) (.seq (.ops false [(.op (some 28) (.ld 2 true (.t 3))), (.op none (.st 2 (.t 6) (.t 28))), (.op (some 7) (.mov (.c (.i 8))))]) .ret) .skip)) (.seq k_ref32_Advance_1 .ret)))
abbrev k_ref32_Advance : SC := (.seq (.ops false [(.op (some 3) (.box (.t 0))), (.op (some 6) (.alloc [.emp, .emp])), (.op (some 7) (.mov (.c (.i 0))))]) k_ref32_Advance_2)
abbrev k_ref32_Close_0 : SC := (.ops true [(.op (some 14) (.ld 2 true (.t 2))), (.op (some 15) (.mov (.t 1))), (.op (some 16) (.fa 1 (.t 2))), (.op (some 17) (.ld 1 false (.t 16))), (.op (some 18) (.mov (.t 1))), (.op (some 19) (.ia 3 (.t 17) (.t 18))), (.op (some 20) (.fa 0 (.t 19))), (.op (some 21) (.ld 1 false (.t 20))), (.op (some 22) (.fa 1 (.t 2))), (.op (some 23) (.ld 1 false (.t 22))), (.op (some 24) (.mov (.t 1))), (.op (some 25) (.ia 3 (.t 23) (.t 24))), (.op (some 26) (.fa 1 (.t 25))), (.op (some 27) (.ld 1 false (.t 26))), (.op (some 28) (.build [(.i 0), (.i 0), (.b false)] [(0, (1, (.t 21))), (1, (1, (.t 27))), (2, (1, (.c (.b true))))])), (.op (some 29) (.call 40 [(.t 14), (.t 15), (.t 28)])), (.op none (.st 2 (.t 4) (.t 29))), (.op (some 5) (.mov (.c (.i 0))))])
abbrev k_ref32_Close : SC := (.seq (.ops false [(.op (some 2) (.box (.t 0))), (.op (some 4) (.alloc [.emp, .emp])), (.op (some 5) (.mov (.c (.i 0))))]) (.seq (.seq (.ops false [(.op (some 7) (.ld 2 true (.t 2))), (.op (some 8) (.mov (.t 1))), (.op (some 9) (.call 37 [(.t 7), (.t 8)])), (.op (some 6) (.mov (.t 9)))]) (.seq (.ops false [(.op (some 10) (.mov (.t 6))), (.op (some 11) (.bin .neq false (.t 10) (.c (.i 0))))]) (.cond (.t 11) (.seq (.ops false [(.op (some 12) (.ld 2 true (.t 2))), (.op (some 13) (.mov (.t 6))), (.op none (.st 2 (.t 4) (.t 12))), (.op (some 5) (.mov (.t 13)))]) .ret) .skip))) (.seq k_ref32_Close_0 .ret)))
abbrev k_law32_GateDoes_0 : SC := (.ops true [(.op (some 123) (.ld 2 true (.t 9))), (.op (some 124) (.mov (.t 2))), (.op (some 125) (.mov (.t 11))), (.op (some 126) (.ia 8 (.t 124) (.t 125))), (.op (some 127) (.fa 1 (.t 126))), (.op (some 128) (.ld 1 false (.t 127))), (.op (some 129) (.mov (.t 2))), (.op (some 130) (.mov (.t 11))), (.op (some 131) (.ia 8 (.t 129) (.t 130))), (.op (some 132) (.fa 2 (.t 131))), (.op (some 133) (.ld 1 false (.t 132))), (.op (some 134) (.call 19 [(.t 123), (.t 128), (.t 133)])), (.op (some 122) (.mov (.t 134))), (.op (some 135) (.ext 0 (.t 122))), (.op (some 136) (.ext 1 (.t 122))), (.op none (.st 2 (.t 9) (.t 135))), (.op (some 10) (.mov (.t 136)))])
abbrev k_law32_GateDoes_1 : SC := (.ops true [(.op (some 108) (.ld 2 true (.t 7))), (.op (some 109) (.mov (.t 2))), (.op (some 110) (.mov (.t 11))), (.op (some 111) (.ia 8 (.t 109) (.t 110))), (.op (some 112) (.fa 1 (.t 111))), (.op (some 113) (.ld 1 false (.t 112))), (.op (some 114) (.mov (.t 2))), (.op (some 115) (.mov (.t 11))), (.op (some 116) (.ia 8 (.t 114) (.t 115))), (.op (some 117) (.fa 2 (.t 116))), (.op (some 118) (.ld 1 false (.t 117))), (.op (some 119) (.call 18 [(.t 108), (.t 113), (.t 118)])), (.op (some 107) (.mov (.t 119))), (.op (some 120) (.ext 0 (.t 107))), (.op (some 121) (.ext 1 (.t 107))), (.op none (.st 2 (.t 13) (.t 120))), (.op (some 8) (.mov (.t 121)))])
abbrev k_law32_GateDoes_2 : SC := (.seq (.ops true [(.op (some 138) (.ld 2 true (.t 7))), (.op (some 139) (.mov (.t 2))), (.op (some 140) (.mov (.t 11))), (.op (some 141) (.ia 8 (.t 139) (.t 140))), (.op (some 142) (.fa 1 (.t 141))), (.op (some 143) (.ld 1 false (.t 142))), (.op (some 144) (.call 20 [(.t 138), (.t 143)])), (.op (some 137) (.mov (.t 144))), (.op (some 145) (.ext 0 (.t 137))), (.op (some 146) (.ext 1 (.t 137))), (.op none (.st 2 (.t 13) (.t 145))), (.op (some 8) (.mov (.t 146)))]) (.ops true [(.op (some 148) (.ld 2 true (.t 9))), (.op (some 149) (.mov (.t 2))), (.op (some 150) (.mov (.t 11))), (.op (some 151) (.ia 8 (.t 149) (.t 150))), (.op (some 152) (.fa 1 (.t 151))), (.op (some 153) (.ld 1 false (.t 152))), (.op (some 154) (.call 21 [(.t 148), (.t 153)])), (.op (some 147) (.mov (.t 154))), (.op (some 155) (.ext 0 (.t 147))), (.op (some 156) (.ext 1 (.t 147))), (.op none (.st 2 (.t 9) (.t 155))), (.op (some 10) (.mov (.t 156)))]))
abbrev k_law32_GateDoes_3 : SC := (.seq (.ops false [(.op (some 86) (.ld 2 true (.t 7))), (.op (some 87) (.ld 5 true (.t 12))), (.op (some 88) (.call 16 [(.t 86), (.t 87)])), (.op (some 85) (.mov (.t 88))), (.op (some 89) (.ext 0 (.t 85))), (.op (some 90) (.ext 1 (.t 85))), (.op none (.st 2 (.t 13) (.t 89))), (.op (some 8) (.mov (.t 90)))]) (.ops true [(.op (some 92) (.ld 2 true (.t 9))), (.op (some 93) (.mov (.t 2))), (.op (some 94) (.mov (.t 11))), (.op (some 95) (.ia 8 (.t 93) (.t 94))), (.op (some 96) (.fa 3 (.t 95))), (.op (some 97) (.ld 5 true (.t 96))), (.op (some 98) (.call 17 [(.t 92), (.t 97)])), (.op (some 91) (.mov (.t 98))), (.op (some 99) (.ext 0 (.t 91))), (.op (some 100) (.ext 1 (.t 91))), (.op none (.st 2 (.t 9) (.t 99))), (.op (some 10) (.mov (.t 100)))]))
abbrev k_law32_GateDoes_4 : SC := (.seq (.ops false [(.op (some 101) (.mov (.t 2))), (.op (some 102) (.mov (.t 11))), (.op (some 103) (.ia 8 (.t 101) (.t 102))), (.op (some 104) (.fa 0 (.t 103))), (.op (some 105) (.ld 1 false (.t 104))), (.op (some 106) (.bin .eql false (.t 105) (.c (.v (.int .u8 1)))))]) (.cond (.t 106) (.seq k_law32_GateDoes_1 k_law32_GateDoes_0) k_law32_GateDoes_2))
abbrev k_law32_GateDoes_5 : SC := (.ops true [(.op (some 157) (.mov (.t 8))), (.op (some 158) (.mov (.t 10))), (.op (some 159) (.bin .neq false (.t 157) (.t 158))), (.op (some 160) (.mov (.t 159))), (.grp 160 false [⟨(some 161), (.ld 2 true (.t 13))⟩, ⟨(some 162), (.call 11 [(.t 161)])⟩, ⟨(some 163), (.ld 2 true (.t 9))⟩, ⟨(some 164), (.call 10 [(.t 162), (.t 163)])⟩, ⟨(some 165), (.un .not (.t 164))⟩]), (.op (some 166) (.pick (.t 160) (.c (.b true)) (.t 165))), (.op (some 167) (.mov (.t 166))), (.grp 167 false [⟨(some 168), (.ld 2 true (.t 13))⟩, ⟨(some 169), (.call 22 [(.t 168)])⟩, ⟨(some 170), (.ld 2 true (.t 9))⟩, ⟨(some 171), (.call 23 [(.t 170)])⟩, ⟨(some 172), (.bin .neq false (.t 169) (.t 171))⟩]), (.op (some 173) (.pick (.t 167) (.c (.b true)) (.t 172))), (.op (some 174) (.mov (.t 173))), (.grp 174 false [⟨(some 175), (.ld 2 true (.t 7))⟩, ⟨(some 176), (.ld 2 true (.t 13))⟩, ⟨(some 177), (.call 24 [(.t 175), (.t 176)])⟩, ⟨(some 178), (.ld 2 true (.t 7))⟩, ⟨(some 179), (.call 11 [(.t 178)])⟩, ⟨(some 180), (.ld 2 true (.t 9))⟩, ⟨(some 181), (.call 10 [(.t 179), (.t 180)])⟩, ⟨(some 182), (.eqb true (.t 177) (.t 181))⟩]), (.op (some 183) (.pick (.t 174) (.c (.b true)) (.t 182)))])
abbrev k_law32_GateDoes_6 : SC := (.seq (.seq (.ops false [(.op (some 79) (.mov (.t 2))), (.op (some 80) (.mov (.t 11))), (.op (some 81) (.ia 8 (.t 79) (.t 80))), (.op (some 82) (.fa 0 (.t 81))), (.op (some 83) (.ld 1 false (.t 82))), (.op (some 84) (.bin .eql false (.t 83) (.c (.v (.int .u8 0)))))]) (.cond (.t 84) k_law32_GateDoes_3 k_law32_GateDoes_4)) (.seq (.seq k_law32_GateDoes_5 (.cond (.t 183) (.seq (.ops false [(.op (some 6) (.mov (.c (.b false))))]) .ret) .skip)) (.ops false [(.op (some 184) (.ld 2 true (.t 13))), (.op none (.st 2 (.t 7) (.t 184)))])))
abbrev k_law32_GateDoes_7 : SC := (.seq (.ops true [(.op (some 67) (.ld 2 true (.t 7))), (.op (some 68) (.ld 5 true (.t 12))), (.op (some 69) (.call 14 [(.t 67), (.t 68)])), (.op (some 70) (.ld 2 true (.t 9))), (.op (some 71) (.mov (.t 2))), (.op (some 72) (.mov (.t 11))), (.op (some 73) (.ia 8 (.t 71) (.t 72))), (.op (some 74) (.fa 3 (.t 73))), (.op (some 75) (.ld 5 true (.t 74))), (.op (some 76) (.call 15 [(.t 70), (.t 75)])), (.op (some 77) (.bin .neq false (.t 69) (.t 76)))]) (.cond (.t 77) (.seq (.ops false [(.op (some 6) (.mov (.c (.b false))))]) .ret) .skip))
abbrev k_law32_GateDoes_8 : SC := (.seq (.ops false [(.op (some 61) (.mov (.t 2))), (.op (some 62) (.mov (.t 11))), (.op (some 63) (.ia 8 (.t 61) (.t 62))), (.op (some 64) (.fa 3 (.t 63))), (.op (some 65) (.ld 5 true (.t 64))), (.op (some 66) (.call 13 [(.t 65)])), (.op (some 12) (.alloc [(.i 0), (.i 0), (.i 0), (.s []), .emp])), (.op none (.st 5 (.t 12) (.t 66)))]) (.seq k_law32_GateDoes_7 (.seq (.ops false [(.op (some 78) (.ld 2 true (.t 7))), (.op (some 13) (.alloc [.emp, .emp])), (.op none (.st 2 (.t 13) (.t 78)))]) k_law32_GateDoes_6)))
abbrev k_law32_GateDoes_9 : SC := (.seq (.block 1 (.seq (.seq (.ops false [(.op (some 52) (.mov (.t 2))), (.op (some 53) (.mov (.t 11))), (.op (some 54) (.ia 8 (.t 52) (.t 53))), (.op (some 55) (.fa 3 (.t 54))), (.op (some 56) (.ld 5 true (.t 55))), (.op (some 57) (.bsl 5 [(.t 56)])), (.op (some 58) (.call 12 [(.t 57), (.c (.i 1))])), (.op (some 59) (.bin .gtr false (.t 58) (.c (.i 0))))]) (.cond (.t 59) (.seq (.ops false [(.op (some 60) (.call 6 [])), (.op (some 6) (.mov (.t 60)))]) .ret) .skip)) k_law32_GateDoes_8)) (.ops false [(.op (some 50) (.mov (.t 11))), (.op (some 51) (.bin .add false (.t 50) (.c (.i 1)))), (.op (some 11) (.mov (.t 51)))]))
abbrev k_law32_GateDoes_10 : SC := (.seq (.seq (.ops false [(.op (some 46) (.mov (.t 11))), (.op (some 47) (.mov (.t 2))), (.op (some 48) (.len false (.t 47))), (.op (some 49) (.bin .lss false (.t 46) (.t 48)))]) (.cond (.t 49) .skip (.exit 0))) k_law32_GateDoes_9)
abbrev k_law32_GateDoes_11 : SC := (.block 0 (.loop k_law32_GateDoes_10))
abbrev k_law32_GateDoes_12 : SC := (.seq (.ops false [(.op (some 11) (.mov (.c (.i 0))))]) k_law32_GateDoes_11)
abbrev k_law32_GateDoes_13 : SC := (.seq k_law32_GateDoes_12 (.seq (.ops false [(.op (some 185) (.call 6 [])), (.op (some 6) (.mov (.t 185)))]) .ret))
abbrev k_law32_GateDoes_14 : SC := (.seq (.ops true [(.op (some 36) (.mov (.t 8))), (.op (some 37) (.mov (.t 10))), (.op (some 38) (.bin .neq false (.t 36) (.t 37))), (.op (some 39) (.mov (.t 38))), (.grp 39 false [⟨(some 40), (.ld 2 true (.t 7))⟩, ⟨(some 41), (.call 11 [(.t 40)])⟩, ⟨(some 42), (.ld 2 true (.t 9))⟩, ⟨(some 43), (.call 10 [(.t 41), (.t 42)])⟩, ⟨(some 44), (.un .not (.t 43))⟩]), (.op (some 45) (.pick (.t 39) (.c (.b true)) (.t 44)))]) (.cond (.t 45) (.seq (.ops false [(.op (some 6) (.mov (.c (.b false))))]) .ret) .skip))
abbrev k_law32_GateDoes_15 : SC := (.seq k_law32_GateDoes_14 k_law32_GateDoes_13)
abbrev k_law32_GateDoes_16 : SC := (.seq (.ops false [(.op (some 31) (.mov (.t 0))), (.op (some 32) (.mov (.t 1))), (.op (some 33) (.call 9 [(.t 31), (.t 32)])), (.op (some 30) (.mov (.t 33))), (.op (some 34) (.ext 0 (.t 30))), (.op (some 35) (.ext 1 (.t 30))), (.op (some 9) (.alloc [.emp, .emp])), (.op none (.st 2 (.t 9) (.t 34))), (.op (some 10) (.mov (.t 35)))]) k_law32_GateDoes_15)
abbrev k_law32_GateDoes_17 : SC := (.seq (.ops false [(.op (some 24) (.mov (.t 0))), (.op (some 25) (.call 8 [(.t 24)])), (.op (some 26) (.mov (.t 1))), (.op (some 27) (.call 7 [(.t 25), (.t 26)])), (.op (some 23) (.mov (.t 27))), (.op (some 28) (.ext 0 (.t 23))), (.op (some 29) (.ext 1 (.t 23))), (.op (some 7) (.alloc [.emp, .emp])), (.op none (.st 2 (.t 7) (.t 28))), (.op (some 8) (.mov (.t 29)))]) k_law32_GateDoes_16)
abbrev k_law32_GateDoes_18 : SC := (.seq (.seq (.ops false [(.op (some 14) (.mov (.t 0))), (.op (some 15) (.call 5 [(.t 14)])), (.op (some 16) (.bin .gtr false (.t 15) (.c (.i 0)))), (.op (some 17) (.mov (.t 16))), (.grp 17 false [⟨(some 18), (.mov (.t 2))⟩, ⟨(some 19), (.len false (.t 18))⟩, ⟨(some 20), (.bin .gtr false (.t 19) (.c (.i 20)))⟩]), (.op (some 21) (.pick (.t 17) (.c (.b true)) (.t 20)))]) (.cond (.t 21) (.seq (.ops false [(.op (some 22) (.call 6 [])), (.op (some 6) (.mov (.t 22)))]) .ret) .skip)) k_law32_GateDoes_17)
abbrev k_law32_GateDoes : SC := (.seq (.ops false [(.op (some 6) (.mov (.c (.b false))))]) k_law32_GateDoes_18)
def s_law06_Over_2 (N : Nat) (i : Int) (e : schema_Type) (next1 : Int → Option Int) (next2 : Int → Option Int) (k : Int) : Option Int :=
  if (decide (k < (List.length e.Fields : Int))) then
   (ix e.Fields k).bind fun e2 =>
   if (decide ((List.length e2.Name : Int) > 40)) then
    some 1
   else
    if i64in (k + 1) then
     next2 (k + 1)
    else none
  else
   if i64in (i + 1) then
    next1 (i + 1)
   else none
def s_law06_Over_1 (N : Nat) (l : List schema_Type) (next1 : Int → Option Int) (i : Int) : Option Int :=
  if (decide (i < (List.length l : Int))) then
   (ix l i).bind fun e =>
   if (decide ((List.length e.Name : Int) > 40)) then
    some 1
   else
    if (decide ((List.length e.Fields : Int) > 12)) then
     some 1
    else
     loop1 (s_law06_Over_2 N i e next1) N 0
  else
   some 0
def s_law06_Over (N : Nat) (l : List schema_Type) : Option Int :=
  if (decide ((List.length l : Int) > 12)) then
   some 1
  else
   loop1 (s_law06_Over_1 N l) N 0
def s_schema_letter (N : Nat) (c : Int) : Option Bool :=
  if (decide (97 ≤ c)) then
   some (decide (c ≤ 122))
  else
   some false
def s_schema_Reserved (N : Nat) (s : List UInt8) : Option Bool :=
  if (s == [119, 105, 116, 104, 105, 110]) then
   some true
  else
   if (s == [98, 121]) then
    some true
   else
    if (s == [97, 110, 100]) then
     some true
    else
     if (s == [111, 114]) then
      some true
     else
      if (s == [110, 111, 116]) then
       some true
      else
       if (s == [97, 110, 121]) then
        some true
       else
        if (s == [110, 101, 120, 116]) then
         some true
        else
         if (s == [115, 116, 114, 105, 99, 116]) then
          some true
         else
          if (s == [116, 114, 117, 101]) then
           some true
          else
           if (s == [102, 97, 108, 115, 101]) then
            some true
           else
            some false
def s_schema_tail (N : Nat) (c : Int) : Option Bool :=
  (s_schema_letter N c).bind fun lett =>
  if lett then
   some true
  else
   if (decide (48 ≤ c)) then
    if (decide (c ≤ 57)) then
     some true
    else
     some (c == 95)
   else
    some (c == 95)
def s_schema_Name_1 (N : Nat) (s : List UInt8) (next1 : Int → Option Bool) (i : Int) : Option Bool :=
  if (decide (i < (List.length s : Int))) then
   (ix s i).bind fun c2 =>
   (s_schema_tail N (UInt8.toNat c2 : Int)).bind fun tail =>
   if tail then
    if i64in (i + 1) then
     next1 (i + 1)
    else none
   else
    some false
  else
   some true
def s_schema_Name (N : Nat) (s : List UInt8) : Option Bool :=
  if (s == []) then
   some false
  else
   if (decide ((List.length s : Int) > 12)) then
    some false
   else
    (ix s 0).bind fun c =>
    (s_schema_letter N (UInt8.toNat c : Int)).bind fun lett =>
    if lett then
     (s_schema_Reserved N s).bind fun rese =>
     if rese then
      some false
     else
      loop1 (s_schema_Name_1 N s) N 1
    else
     some false
def s_schema_Type_Field_1 (N : Nat) (t : schema_Type) (name : List UInt8) (next1 : Int → Option (Int × Int)) (x : Int) : Option (Int × Int) :=
  if (decide (x < (List.length t.Fields : Int))) then
   (ix t.Fields x).bind fun e =>
   if (e.Name == name) then
    some (x, e.Kind)
   else
    if i64in (x + 1) then
     next1 (x + 1)
    else none
  else
   some ((-1), 0)
def s_schema_Type_Field (N : Nat) (t : schema_Type) (name : List UInt8) : Option (Int × Int) :=
  loop1 (s_schema_Type_Field_1 N t name) N 0
def s_value_Word (N : Nat) (kind : Int) : Option (List UInt8) :=
  if (kind == 1) then
   some [105, 110, 116]
  else
   if (kind == 2) then
    some [102, 108, 97, 103]
   else
    if (kind == 3) then
     some [114, 101, 97, 108]
    else
     if (kind == 4) then
      some [116, 101, 120, 116]
     else
      some []
def s_schema_Type_check_1 (N : Nat) (t : schema_Type) (next1 : Int → Option Int) (x : Int) : Option Int :=
  if (decide (x < (List.length t.Fields : Int))) then
   (ix t.Fields x).bind fun e =>
   (s_schema_Type_Field N t e.Name).bind fun fiel =>
   (s_schema_Name N e.Name).bind fun name2 =>
   if name2 then
    (s_value_Word N e.Kind).bind fun word =>
    if (word == []) then
     some 11
    else
     if (fiel.1 != x) then
      some 21
     else
      if i64in (x + 1) then
       next1 (x + 1)
      else none
   else
    some 4
  else
   some 0
def s_schema_Type_check (N : Nat) (t : schema_Type) : Option Int :=
  (s_schema_Name N t.Name).bind fun name =>
  if name then
   if (decide ((List.length t.Fields : Int) > 6)) then
    some 5
   else
    loop1 (s_schema_Type_check_1 N t) N 0
  else
   some 4
def s_slices_Clone_schema_Field_own (N : Nat) (s : List schema_Field) : Option (List schema_Field) :=
  if (0 + List.length s) * 24 ≤ 140737488355328 then
   some s
  else none
def s_schema_Find_1 (N : Nat) (l : List schema_Type) (name : List UInt8) (next1 : Int → Option (schema_Type × Bool)) (x : Int) : Option (schema_Type × Bool) :=
  if (decide (x < (List.length l : Int))) then
   (ix l x).bind fun e =>
   if (e.Name == name) then
    (s_slices_Clone_schema_Field_own N e.Fields).bind fun fiel =>
    some ((schema_Type.mk name fiel), true)
   else
    if i64in (x + 1) then
     next1 (x + 1)
    else none
  else
   some ((schema_Type.mk [] []), false)
def s_schema_Find (N : Nat) (l : List schema_Type) (name : List UInt8) : Option (schema_Type × Bool) :=
  loop1 (s_schema_Find_1 N l name) N 0
def s_schema_Check_1 (N : Nat) (l : List schema_Type) (next1 : Int → Option Int) (x : Int) : Option Int :=
  if (decide (x < (List.length l : Int))) then
   (ix l x).bind fun e =>
   (s_schema_Type_check N e).bind fun chec =>
   if (chec != 0) then
    some chec
   else
    if 0 ≤ x ∧ x ≤ (List.length l : Int) then
     (s_schema_Find N (List.take (Int.toNat x) l) e.Name).bind fun find =>
     if find.2 then
      some 21
     else
      if i64in (x + 1) then
       next1 (x + 1)
      else none
    else none
  else
   some 0
def s_schema_Check (N : Nat) (l : List schema_Type) : Option Int :=
  if (decide ((List.length l : Int) > 8)) then
   some 5
  else
   loop1 (s_schema_Check_1 N l) N 0
def s_stringslite_IndexByte (N : Nat) (s : List UInt8) (c : Int) : Option Int :=
  some (Lib.indexByte s (UInt8.ofNat (Int.toNat c)))
def s_stringslite_Index_v860 (N : Nat) (s : List UInt8) : Option Int :=
  if ([10] == s) then
   some 0
  else
   (s_stringslite_IndexByte N s 10).bind fun inde =>
   some inde
def s_stringslite_Cut_v860 (N : Nat) (s : List UInt8) : Option (List UInt8 × List UInt8 × Bool) :=
  (s_stringslite_Index_v860 N s).bind fun inde =>
  if (decide (inde ≥ 0)) then
   if 0 ≤ inde ∧ inde ≤ (List.length s : Int) then
    if i64in (inde + 1) then
     if 0 ≤ (inde + 1) ∧ (inde + 1) ≤ (List.length s : Int) then
      some ((List.take (Int.toNat inde) s), (List.drop (Int.toNat (inde + 1)) s), true)
     else none
    else none
   else none
  else
   some (s, [], false)
def s_strings_Cut_v860 (N : Nat) (s : List UInt8) : Option (List UInt8 × List UInt8 × Bool) :=
  (s_stringslite_Cut_v860 N s).bind fun cut =>
  some (cut.1, cut.2.1, cut.2.2)
def s_strings_Count_v724 (N : Nat) (s : List UInt8) : Option Int :=
  some ((Lib.countByte s (UInt8.ofNat (Int.toNat 32)) : Nat) : Int)
def s_stringslite_Index_v724 (N : Nat) (s : List UInt8) : Option Int :=
  if ([32] == s) then
   some 0
  else
   (s_stringslite_IndexByte N s 32).bind fun inde =>
   some inde
def s_strings_Index_v724 (N : Nat) (s : List UInt8) : Option Int :=
  (s_stringslite_Index_v724 N s).bind fun inde =>
  some inde
def s_strings_genSplit_v997_1 (N : Nat) (s : List UInt8) (sepSave : Int) (coun : Int) (next1 : (List UInt8) → Int → (List (List UInt8)) → Option (List (List UInt8))) (s2 : List UInt8) (i : Int) (ys : List (List UInt8)) : Option (List (List UInt8)) :=
  if (decide (i < ((min (coun + 1) ((List.length s : Int) + 1)) - 1))) then
   (s_strings_Index_v724 N s2).bind fun inde =>
   if (decide (inde < 0)) then
    (ix ys i).bind fun e =>
    if i64in (i + 1) then
     if 0 ≤ (i + 1) ∧ (i + 1) ≤ (List.length (List.set ys (Int.toNat i) s2) : Int) then
      some (List.take (Int.toNat (i + 1)) (List.set ys (Int.toNat i) s2))
     else none
    else none
   else
    if i64in (inde + sepSave) then
     if 0 ≤ (inde + sepSave) ∧ (inde + sepSave) ≤ (List.length s2 : Int) then
      (ix ys i).bind fun e2 =>
      if i64in (inde + 1) then
       if 0 ≤ (inde + 1) ∧ (inde + 1) ≤ (List.length s2 : Int) then
        if i64in (i + 1) then
         next1 (List.drop (Int.toNat (inde + 1)) s2) (i + 1) (List.set ys (Int.toNat i) (List.take (Int.toNat (inde + sepSave)) s2))
        else none
       else none
      else none
     else none
    else none
  else
   (ix ys i).bind fun e3 =>
   if i64in (i + 1) then
    if 0 ≤ (i + 1) ∧ (i + 1) ≤ (List.length (List.set ys (Int.toNat i) s2) : Int) then
     some (List.take (Int.toNat (i + 1)) (List.set ys (Int.toNat i) s2))
    else none
   else none
def s_strings_genSplit_v997_2 (N : Nat) (s : List UInt8) (sepSave : Int) (n : Int) (next2 : (List UInt8) → Int → (List (List UInt8)) → Option (List (List UInt8))) (s3 : List UInt8) (i2 : Int) (ys2 : List (List UInt8)) : Option (List (List UInt8)) :=
  if (decide (i2 < ((min n ((List.length s : Int) + 1)) - 1))) then
   (s_strings_Index_v724 N s3).bind fun inde2 =>
   if (decide (inde2 < 0)) then
    (ix ys2 i2).bind fun e4 =>
    if i64in (i2 + 1) then
     if 0 ≤ (i2 + 1) ∧ (i2 + 1) ≤ (List.length (List.set ys2 (Int.toNat i2) s3) : Int) then
      some (List.take (Int.toNat (i2 + 1)) (List.set ys2 (Int.toNat i2) s3))
     else none
    else none
   else
    if i64in (inde2 + sepSave) then
     if 0 ≤ (inde2 + sepSave) ∧ (inde2 + sepSave) ≤ (List.length s3 : Int) then
      (ix ys2 i2).bind fun e5 =>
      if i64in (inde2 + 1) then
       if 0 ≤ (inde2 + 1) ∧ (inde2 + 1) ≤ (List.length s3 : Int) then
        if i64in (i2 + 1) then
         next2 (List.drop (Int.toNat (inde2 + 1)) s3) (i2 + 1) (List.set ys2 (Int.toNat i2) (List.take (Int.toNat (inde2 + sepSave)) s3))
        else none
       else none
      else none
     else none
    else none
  else
   (ix ys2 i2).bind fun e6 =>
   if i64in (i2 + 1) then
    if 0 ≤ (i2 + 1) ∧ (i2 + 1) ≤ (List.length (List.set ys2 (Int.toNat i2) s3) : Int) then
     some (List.take (Int.toNat (i2 + 1)) (List.set ys2 (Int.toNat i2) s3))
    else none
   else none
def s_strings_genSplit_v997 (N : Nat) (s : List UInt8) (sepSave : Int) (n : Int) : Option (List (List UInt8)) :=
  if (n == 0) then
   some []
  else
   if (decide (n < 0)) then
    (s_strings_Count_v724 N s).bind fun coun =>
    if i64in (coun + 1) then
     if i64in ((List.length s : Int) + 1) then
      if 0 ≤ (min (coun + 1) ((List.length s : Int) + 1)) ∧ 16 * (min (coun + 1) ((List.length s : Int) + 1)) ≤ 281474976710656 then
       if i64in ((min (coun + 1) ((List.length s : Int) + 1)) - 1) then
        loop3 (s_strings_genSplit_v997_1 N s sepSave coun) N s 0 (List.replicate (Int.toNat (min (coun + 1) ((List.length s : Int) + 1))) [])
       else none
      else none
     else none
    else none
   else
    if i64in ((List.length s : Int) + 1) then
     if 0 ≤ (min n ((List.length s : Int) + 1)) ∧ 16 * (min n ((List.length s : Int) + 1)) ≤ 281474976710656 then
      if i64in ((min n ((List.length s : Int) + 1)) - 1) then
       loop3 (s_strings_genSplit_v997_2 N s sepSave n) N s 0 (List.replicate (Int.toNat (min n ((List.length s : Int) + 1))) [])
      else none
     else none
    else none
def s_strings_Split_v724 (N : Nat) (s : List UInt8) : Option (List (List UInt8)) :=
  (s_strings_genSplit_v997 N s 0 (-1)).bind fun gens =>
  some gens
def s_stringslite_Index_v682 (N : Nat) (s : List UInt8) : Option Int :=
  if ([58] == s) then
   some 0
  else
   (s_stringslite_IndexByte N s 58).bind fun inde =>
   some inde
def s_stringslite_Cut_v682 (N : Nat) (s : List UInt8) : Option (List UInt8 × List UInt8 × Bool) :=
  (s_stringslite_Index_v682 N s).bind fun inde =>
  if (decide (inde ≥ 0)) then
   if 0 ≤ inde ∧ inde ≤ (List.length s : Int) then
    if i64in (inde + 1) then
     if 0 ≤ (inde + 1) ∧ (inde + 1) ≤ (List.length s : Int) then
      some ((List.take (Int.toNat inde) s), (List.drop (Int.toNat (inde + 1)) s), true)
     else none
    else none
   else none
  else
   some (s, [], false)
def s_strings_Cut_v682 (N : Nat) (s : List UInt8) : Option (List UInt8 × List UInt8 × Bool) :=
  (s_stringslite_Cut_v682 N s).bind fun cut =>
  some (cut.1, cut.2.1, cut.2.2)
def s_schema_kindOf_1 (N : Nat) (word : List UInt8) (next1 : Int → Option Int) (kind : Int) : Option Int :=
  if (decide (kind ≤ 4)) then
   (s_value_Word N kind).bind fun word2 =>
   if (word2 == word) then
    some kind
   else
    next1 (IntKind.u8.wrap (kind + 1))
  else
   some 0
def s_schema_kindOf (N : Nat) (word : List UInt8) : Option Int :=
  loop1 (s_schema_kindOf_1 N word) N 1
def s_schema_Parse_2 (N : Nat) (ys : List schema_Type) (cut : List UInt8 × List UInt8 × Bool) (spli : List (List UInt8)) (e : List UInt8) (next1 : (List UInt8) → Bool → (List schema_Type) → Option (List schema_Type × Int)) (next2 : Bool → Int → (List schema_Field) → Option (List schema_Type × Int)) (whole2 : Bool) (x : Int) (ys2 : List schema_Field) : Option (List schema_Type × Int) :=
  if (decide (x < (List.length (List.drop 1 spli) : Int))) then
   (ix (List.drop 1 spli) x).bind fun e2 =>
   (s_strings_Cut_v682 N e2).bind fun cut2 =>
   (s_schema_kindOf N cut2.2.1).bind fun kind =>
   if cut2.2.2 then
    if (kind == 0) then
     some ([], 4)
    else
     if (List.length ys2 + 1) * 24 ≤ 140737488355328 then
      if i64in (x + 1) then
       next2 whole2 (x + 1) (ys2 ++ [(schema_Field.mk cut2.1 kind)])
      else none
     else none
   else
    some ([], 4)
  else
   if cut.2.2 then
    if (List.length ys + 1) * 40 ≤ 140737488355328 then
     next1 cut.2.1 whole2 (ys ++ [(schema_Type.mk e ys2)])
    else none
   else
    some ([], 4)
def s_schema_Parse_1 (N : Nat) (next1 : (List UInt8) → Bool → (List schema_Type) → Option (List schema_Type × Int)) (s2 : List UInt8) (whole : Bool) (ys : List schema_Type) : Option (List schema_Type × Int) :=
  if (s2 == []) then
   if whole then
    (s_schema_Check N ys).bind fun chec =>
    if (chec != 0) then
     some ([], chec)
    else
     some (ys, 0)
   else
    some ([], 4)
  else
   (s_strings_Cut_v860 N s2).bind fun cut =>
   (s_strings_Split_v724 N cut.1).bind fun spli =>
   (ix spli 0).bind fun e =>
   if 1 ≤ (List.length spli : Int) then
    loop3 (s_schema_Parse_2 N ys cut spli e next1) N whole 0 []
   else none
def s_schema_Parse (N : Nat) (s : List UInt8) : Option (List schema_Type × Int) :=
  loop3 (s_schema_Parse_1 N) N s true []
def s_slices_Clone_schema_Type (N : Nat) (s : List schema_Type) : Option (List schema_Type) :=
  if (0 + List.length s) * 40 ≤ 140737488355328 then
   some s
  else none
def s_gate_New_1 (N : Nat) (sources : Int) (type : List schema_Type) (next1 : Int → (List gate_Source) → Option (gate_Gate × Int)) (x : Int) (ys : List gate_Source) : Option (gate_Gate × Int) :=
  if (decide (x < (List.length (List.replicate (Int.toNat sources) (gate_Source.mk 0 0 false)) : Int))) then
   (ix ys x).bind fun e =>
   if i64in (x + 1) then
    next1 (x + 1) (List.set ys (Int.toNat x) (gate_Source.mk e.Front (-1) e.Closed))
   else none
  else
   some ((gate_Gate.mk type ys), 0)
def s_gate_New (N : Nat) (types : List schema_Type) (sources : Int) : Option (gate_Gate × Int) :=
  (s_schema_Check N types).bind fun chec =>
  if (chec != 0) then
   some ((gate_Gate.mk [] []), 2)
  else
   if (decide (sources < 1)) then
    some ((gate_Gate.mk [] []), 2)
   else
    if (decide (sources > 16)) then
     some ((gate_Gate.mk [] []), 2)
    else
     (s_slices_Clone_schema_Type N types).bind fun type =>
     if 0 ≤ sources ∧ 24 * sources ≤ 281474976710656 then
      loop2 (s_gate_New_1 N sources type) N 0 (List.replicate (Int.toNat sources) (gate_Source.mk 0 0 false))
     else none
def s_gate_Gate_open (N : Nat) (g : gate_Gate) (s : Int) : Option (gate_Source × Int) :=
  if (decide (s < 0)) then
   some ((gate_Source.mk 0 0 false), 17)
  else
   if (decide (s ≥ (List.length g.L : Int))) then
    some ((gate_Source.mk 0 0 false), 17)
   else
    (ix g.L s).bind fun e =>
    if e.Closed then
     some ((gate_Source.mk 0 0 false), 20)
    else
     some (e, 0)
def s_slices_Clone_gate_Source_own (N : Nat) (s : List gate_Source) : Option (List gate_Source) :=
  if (0 + List.length s) * 24 ≤ 140737488355328 then
   some s
  else none
def s_gate_Gate_Advance_L1_v469 (N : Nat) (i : Int) (y : Int) (xs : List gate_Source) : Option (List gate_Source) :=
  (ix xs i).bind fun e =>
  some (List.set xs (Int.toNat i) (gate_Source.mk y e.Last e.Closed))
def s_gate_Gate_turn_v637 (N : Nat) (g : gate_Gate) (s : Int) (y : Int) : Option gate_Gate :=
  (s_slices_Clone_gate_Source_own N g.L).bind fun sour =>
  (ix sour s).bind fun e =>
  (s_gate_Gate_Advance_L1_v469 N s y sour).bind fun l =>
  some (gate_Gate.mk g.Types l)
def s_gate_Gate_Advance (N : Nat) (g : gate_Gate) (s : Int) (time : Int) : Option (gate_Gate × Int) :=
  (s_gate_Gate_open N g s).bind fun vopen =>
  if (vopen.2 != 0) then
   some (g, vopen.2)
  else
   if (decide (time < vopen.1.Front)) then
    some (g, 8)
   else
    if (decide (time > 1099511627776)) then
     some (g, 8)
    else
     (s_gate_Gate_turn_v637 N g s time).bind fun turn =>
     some (turn, 0)
def s_event_Event_ID (N : Nat) (e : event_Event) : Option event_ID :=
  some (event_ID.mk e.Time e.Source e.Seq)
def s_event_ID_may (N : Nat) (a : event_ID) : Option Bool :=
  if (decide (a.Time ≥ 0)) then
   if (decide (a.Time ≤ 1099511627776)) then
    if (decide (a.Source ≥ 0)) then
     if (decide (a.Source < 16)) then
      if (decide (a.Seq ≥ 0)) then
       some (decide (a.Seq ≤ 1099511627776))
      else
       some false
     else
      some false
    else
     some false
   else
    some false
  else
   some false
def s_value_core (N : Nat) (v : value_Value) : Option U_value_holds :=
  if (v.Kind == 1) then
   some (U_value_holds.number_ v.N)
  else
   if (v.Kind == 2) then
    some (U_value_holds.flag_ v.N)
   else
    if (v.Kind == 3) then
     some (U_value_holds.double_ v.Bits)
    else
     if (v.Kind == 4) then
      some (U_value_holds.words_ v.Text)
     else
      some U_value_holds.nil
def s_real_of (N : Nat) (u : Int) : Option Nat :=
  some (Int.toNat u)
def s_real_Clean (N : Nat) (u : Int) : Option Int :=
  (s_real_of N u).bind fun of =>
  if (fcmpB .neq .f64 of of) then
   some 9221120237041090560
  else
   some u
def s_value_double_whole (N : Nat) (u : Int) : Option value_Value :=
  some (value_Value.mk 3 0 u [])
def s_value_flag_whole (N : Nat) (n : Int) : Option value_Value :=
  some (value_Value.mk 2 n 0 [])
def s_value_number_whole (N : Nat) (n : Int) : Option value_Value :=
  some (value_Value.mk 1 n 0 [])
def s_value_words_whole (N : Nat) (s : List UInt8) : Option value_Value :=
  some (value_Value.mk 4 0 0 s)
def s_value_Check (N : Nat) (v : value_Value) : Option Int :=
  (s_value_core N v).bind fun core =>
  U_value_holds.el core
   (
    some 11)
   (fun double =>
    (s_real_Clean N double).bind fun clea =>
    if (clea != double) then
     some 4
    else
     (s_value_double_whole N double).bind fun whol =>
     if ((whol.Kind == v.Kind) && ((whol.N == v.N) && ((whol.Bits == v.Bits) && (whol.Text == v.Text)))) then
      some 0
     else
      some 2)
   (fun flag =>
    if (flag != 0) then
     if (flag != 1) then
      some 8
     else
      (s_value_flag_whole N flag).bind fun whol2 =>
      if ((whol2.Kind == v.Kind) && ((whol2.N == v.N) && ((whol2.Bits == v.Bits) && (whol2.Text == v.Text)))) then
       some 0
      else
       some 2
    else
     (s_value_flag_whole N flag).bind fun whol3 =>
     if ((whol3.Kind == v.Kind) && ((whol3.N == v.N) && ((whol3.Bits == v.Bits) && (whol3.Text == v.Text)))) then
      some 0
     else
      some 2)
   (fun number =>
    if (decide (number < (-4611686018427387904))) then
     some 8
    else
     if (decide (number > 4611686018427387904)) then
      some 8
     else
      (s_value_number_whole N number).bind fun whol4 =>
      if ((whol4.Kind == v.Kind) && ((whol4.N == v.N) && ((whol4.Bits == v.Bits) && (whol4.Text == v.Text)))) then
       some 0
      else
       some 2)
   (fun words =>
    if (decide ((List.length words : Int) > 24)) then
     some 5
    else
     (s_value_words_whole N words).bind fun whol5 =>
     if ((whol5.Kind == v.Kind) && ((whol5.N == v.N) && ((whol5.Bits == v.Bits) && (whol5.Text == v.Text)))) then
      some 0
     else
      some 2)
def s_schema_Fits_1 (N : Nat) (t : schema_Type) (vals : List value_Value) (next1 : Int → Option Int) (x : Int) : Option Int :=
  if (decide (x < (List.length vals : Int))) then
   (ix vals x).bind fun e =>
   (s_value_Check N e).bind fun chec =>
   if (chec != 0) then
    some chec
   else
    (ix t.Fields x).bind fun e2 =>
    if (e.Kind != e2.Kind) then
     some 19
    else
     if i64in (x + 1) then
      next1 (x + 1)
     else none
  else
   some 0
def s_schema_Fits (N : Nat) (t : schema_Type) (vals : List value_Value) : Option Int :=
  if ((List.length vals : Int) != (List.length t.Fields : Int)) then
   some 5
  else
   loop1 (s_schema_Fits_1 N t vals) N 0
def s_event_Check (N : Nat) (types : List schema_Type) (e : event_Event) : Option Int :=
  (s_schema_Check N types).bind fun chec =>
  if (chec != 0) then
   some 2
  else
   (s_event_Event_ID N e).bind fun id =>
   (s_event_ID_may N id).bind fun may =>
   if may then
    (s_schema_Find N types e.Type_).bind fun find =>
    if find.2 then
     (s_schema_Fits N find.1 e.Vals).bind fun fits =>
     some fits
    else
     some 6
   else
    some 8
def s_gate_Gate_Why (N : Nat) (g : gate_Gate) (e : event_Event) : Option Int :=
  (s_event_Check N g.Types e).bind fun chec =>
  if (chec != 0) then
   some chec
  else
   (s_gate_Gate_open N g e.Source).bind fun vopen =>
   if (vopen.2 != 0) then
    some vopen.2
   else
    if (decide (e.Time < vopen.1.Front)) then
     some 13
    else
     if (decide (e.Seq ≤ vopen.1.Last)) then
      some 12
     else
      some 0
def s_gate_Gate_Accept_L1_v149 (N : Nat) (i : Int) (y : Int) (y2 : Int) (y3 : Int) (y4 : List UInt8) (y5 : List value_Value) (xs : List gate_Source) : Option (List gate_Source) :=
  (ix xs i).bind fun e =>
  some (List.set xs (Int.toNat i) (gate_Source.mk e.Front y3 e.Closed))
def s_gate_Gate_turn_v778 (N : Nat) (g : gate_Gate) (s : Int) (y : Int) (y2 : Int) (y3 : Int) (y4 : List UInt8) (y5 : List value_Value) : Option gate_Gate :=
  (s_slices_Clone_gate_Source_own N g.L).bind fun sour =>
  (ix sour s).bind fun e =>
  (s_gate_Gate_Accept_L1_v149 N s y y2 y3 y4 y5 sour).bind fun l =>
  some (gate_Gate.mk g.Types l)
def s_gate_Gate_Accept (N : Nat) (g : gate_Gate) (e : event_Event) : Option (gate_Gate × Int) :=
  (s_gate_Gate_Why N g e).bind fun why =>
  if (why != 0) then
   some (g, why)
  else
   (s_gate_Gate_turn_v778 N g e.Source e.Time e.Source e.Seq e.Type_ e.Vals).bind fun turn =>
   some (turn, 0)
def s_gate_Gate_Close_L1_v462 (N : Nat) (i : Int) (xs : List gate_Source) : Option (List gate_Source) :=
  (ix xs i).bind fun e =>
  some (List.set xs (Int.toNat i) (gate_Source.mk e.Front e.Last true))
def s_gate_Gate_turn_v071 (N : Nat) (g : gate_Gate) (s : Int) : Option gate_Gate :=
  (s_slices_Clone_gate_Source_own N g.L).bind fun sour =>
  (ix sour s).bind fun e =>
  (s_gate_Gate_Close_L1_v462 N s sour).bind fun l =>
  some (gate_Gate.mk g.Types l)
def s_gate_Gate_Close (N : Nat) (g : gate_Gate) (s : Int) : Option (gate_Gate × Int) :=
  (s_gate_Gate_open N g s).bind fun vopen =>
  if (vopen.2 != 0) then
   some (g, vopen.2)
  else
   (s_gate_Gate_turn_v071 N g s).bind fun turn =>
   some (turn, 0)
def s_gate_Gate_Least_1 (N : Nat) (g : gate_Gate) (next1 : Int → Int → Option Int) (least : Int) (x : Int) : Option Int :=
  if (decide (x < (List.length g.L : Int))) then
   (ix g.L x).bind fun e =>
   if e.Closed then
    if i64in (x + 1) then
     next1 least (x + 1)
    else none
   else
    if i64in (x + 1) then
     next1 (min least e.Front) (x + 1)
    else none
  else
   some least
def s_gate_Gate_Least (N : Nat) (g : gate_Gate) : Option Int :=
  loop2 (s_gate_Gate_Least_1 N g) N 1099511627777 0
def s_slices_Equal_schema_Field_1 (N : Nat) (s1 : List schema_Field) (s2 : List schema_Field) (next1 : Int → Option Bool) (x : Int) : Option Bool :=
  if (decide (x < (List.length s1 : Int))) then
   (ix s1 x).bind fun e =>
   (ix s2 x).bind fun e2 =>
   if ((e.Name == e2.Name) && (e.Kind == e2.Kind)) then
    if i64in (x + 1) then
     next1 (x + 1)
    else none
   else
    some false
  else
   some true
def s_slices_Equal_schema_Field (N : Nat) (s1 : List schema_Field) (s2 : List schema_Field) : Option Bool :=
  if ((List.length s1 : Int) != (List.length s2 : Int)) then
   some false
  else
   loop1 (s_slices_Equal_schema_Field_1 N s1 s2) N 0
def s_schema_Same_L1 (N : Nat) (x : schema_Type) (y : schema_Type) : Option Bool :=
  if (x.Name == y.Name) then
   (s_slices_Equal_schema_Field N x.Fields y.Fields).bind fun fiel =>
   some fiel
  else
   some false
def s_slices_EqualFunc_schema_Type_v029_1 (N : Nat) (s1 : List schema_Type) (s2 : List schema_Type) (next1 : Int → Option Bool) (x : Int) : Option Bool :=
  if (decide (x < (List.length s1 : Int))) then
   (ix s1 x).bind fun e =>
   (ix s2 x).bind fun e2 =>
   (s_schema_Same_L1 N e e2).bind fun l =>
   if l then
    if i64in (x + 1) then
     next1 (x + 1)
    else none
   else
    some false
  else
   some true
def s_slices_EqualFunc_schema_Type_v029 (N : Nat) (s1 : List schema_Type) (s2 : List schema_Type) : Option Bool :=
  if ((List.length s1 : Int) != (List.length s2 : Int)) then
   some false
  else
   loop1 (s_slices_EqualFunc_schema_Type_v029_1 N s1 s2) N 0
def s_schema_Same (N : Nat) (a : List schema_Type) (b : List schema_Type) : Option Bool :=
  (s_slices_EqualFunc_schema_Type_v029 N a b).bind fun type =>
  some type
def s_gate_Same_1 (N : Nat) (a : gate_Gate) (b : gate_Gate) (next1 : Int → Option Bool) (x : Int) : Option Bool :=
  if (decide (x < (List.length a.L : Int))) then
   (ix a.L x).bind fun e =>
   (ix b.L x).bind fun e2 =>
   if ((e.Front == e2.Front) && ((e.Last == e2.Last) && (e.Closed == e2.Closed))) then
    if i64in (x + 1) then
     next1 (x + 1)
    else none
   else
    some false
  else
   some true
def s_gate_Same (N : Nat) (a : gate_Gate) (b : gate_Gate) : Option Bool :=
  if ((List.length a.L : Int) != (List.length b.L : Int)) then
   some false
  else
   (s_schema_Same N a.Types b.Types).bind fun same =>
   if same then
    loop1 (s_gate_Same_1 N a b) N 0
   else
    some false
def s_law32_awake (N : Nat) : Option Bool :=
  (s_schema_Parse N [116, 10]).bind fun pars =>
  (s_gate_New N pars.1 2).bind fun new =>
  (s_gate_New N pars.1 17).bind fun new2 =>
  (s_gate_Gate_Advance N new.1 0 5).bind fun adva =>
  (s_gate_Gate_Advance N adva.1 0 4).bind fun adva2 =>
  (s_gate_Gate_Accept N adva.1 (event_Event.mk 4 0 0 [116] [])).bind fun acce =>
  (s_gate_Gate_Accept N adva.1 (event_Event.mk 5 0 3 [116] [])).bind fun acce2 =>
  (s_gate_Gate_Accept N acce2.1 (event_Event.mk 5 0 3 [116] [])).bind fun acce3 =>
  (s_gate_Gate_Close N acce2.1 1).bind fun clos =>
  (s_gate_Gate_Close N clos.1 1).bind fun clos2 =>
  (s_gate_Gate_Close N clos.1 0).bind fun clos3 =>
  if (new.2 == 0) then
   if (new2.2 == 2) then
    if (adva.2 == 0) then
     if (adva2.2 == 8) then
      if (acce.2 == 13) then
       if (acce2.2 == 0) then
        if (acce3.2 == 12) then
         if (clos.2 == 0) then
          if (clos2.2 == 20) then
           (s_gate_Gate_Why N acce2.1 (event_Event.mk 0 2 0 [116] [])).bind fun why =>
           if (why == 17) then
            (s_gate_Gate_Why N acce2.1 (event_Event.mk 0 0 0 [117] [])).bind fun why2 =>
            if (why2 == 6) then
             (s_gate_Gate_Least N acce2.1).bind fun leas =>
             if (leas == 0) then
              (s_gate_Gate_Least N clos.1).bind fun leas2 =>
              if (leas2 == 5) then
               (s_gate_Gate_Least N clos3.1).bind fun leas3 =>
               if (leas3 == 1099511627777) then
                (s_gate_Same N acce2.1 acce2.1).bind fun same =>
                if same then
                 (s_gate_Same N acce2.1 clos.1).bind fun same2 =>
                 if same2 then
                  some false
                 else
                  some true
                else
                 some false
               else
                some false
              else
               some false
             else
              some false
            else
             some false
           else
            some false
          else
           some false
         else
          some false
        else
         some false
       else
        some false
      else
       some false
     else
      some false
    else
     some false
   else
    some false
  else
   some false
def s_law06_Own_2 (N : Nat) (i : Int) (ys : List schema_Type) (e : schema_Type) (next1 : Int → (List schema_Type) → Option (List schema_Type)) (next2 : Int → (List schema_Field) → Option (List schema_Type)) (k : Int) (ys2 : List schema_Field) : Option (List schema_Type) :=
  if (decide (k < (List.length e.Fields : Int))) then
   (ix e.Fields k).bind fun e2 =>
   if (List.length ys2 + 1) * 24 ≤ 140737488355328 then
    if i64in (k + 1) then
     next2 (k + 1) (ys2 ++ [e2])
    else none
   else none
  else
   if (List.length ys + 1) * 40 ≤ 140737488355328 then
    if i64in (i + 1) then
     next1 (i + 1) (ys ++ [(schema_Type.mk e.Name ys2)])
    else none
   else none
def s_law06_Own_1 (N : Nat) (l : List schema_Type) (next1 : Int → (List schema_Type) → Option (List schema_Type)) (i : Int) (ys : List schema_Type) : Option (List schema_Type) :=
  if (decide (i < (List.length l : Int))) then
   (ix l i).bind fun e =>
   loop2 (s_law06_Own_2 N i ys e next1) N 0 []
  else
   some ys
def s_law06_Own (N : Nat) (l : List schema_Type) : Option (List schema_Type) :=
  loop2 (s_law06_Own_1 N l) N 0 []
def s_ref06_Reserved_1 (N : Nat) (s : List UInt8) (next1 : Int → Option Bool) (i : Int) : Option Bool :=
  if (decide (i < 10)) then
   (ix [[119, 105, 116, 104, 105, 110], [98, 121], [97, 110, 100], [111, 114], [110, 111, 116], [97, 110, 121], [110, 101, 120, 116], [115, 116, 114, 105, 99, 116], [116, 114, 117, 101], [102, 97, 108, 115, 101]] i).bind fun e =>
   if (e == s) then
    some true
   else
    if i64in (i + 1) then
     next1 (i + 1)
    else none
  else
   some false
def s_ref06_Reserved (N : Nat) (s : List UInt8) : Option Bool :=
  loop1 (s_ref06_Reserved_1 N s) N 0
def s_ref06_Name_1 (N : Nat) (s : List UInt8) (next1 : Int → Option Bool) (i : Int) : Option Bool :=
  if (decide (i < (List.length s : Int))) then
   (ix s i).bind fun c =>
   if (decide ((UInt8.toNat c : Int) ≥ 97)) then
    if (decide ((UInt8.toNat c : Int) ≤ 122)) then
     if i64in (i + 1) then
      next1 (i + 1)
     else none
    else
     if (i == 0) then
      some false
     else
      some false
   else
    if (decide ((UInt8.toNat c : Int) ≥ 48)) then
     if (decide ((UInt8.toNat c : Int) ≤ 57)) then
      if (i == 0) then
       some false
      else
       if i64in (i + 1) then
        next1 (i + 1)
       else none
     else
      if (i == 0) then
       some false
      else
       if ((UInt8.toNat c : Int) == 95) then
        if i64in (i + 1) then
         next1 (i + 1)
        else none
       else
        some false
    else
     if (i == 0) then
      some false
     else
      some false
  else
   some true
def s_ref06_Name (N : Nat) (s : List UInt8) : Option Bool :=
  if (decide ((List.length s : Int) < 1)) then
   some false
  else
   if (decide ((List.length s : Int) > 12)) then
    some false
   else
    (s_ref06_Reserved N s).bind fun rese =>
    if rese then
     some false
    else
     loop1 (s_ref06_Name_1 N s) N 0
def s_ref04_Word (N : Nat) (kind : Int) : Option (List UInt8) :=
  if (kind == 1) then
   some [105, 110, 116]
  else
   if (kind == 2) then
    some [102, 108, 97, 103]
   else
    if (kind == 3) then
     some [114, 101, 97, 108]
    else
     if (kind == 4) then
      some [116, 101, 120, 116]
     else
      some []
def s_ref06_one_2 (N : Nat) (t : schema_Type) (i : Int) (e : schema_Field) (next1 : Int → Option Int) (next2 : Int → Option Int) (k : Int) : Option Int :=
  if (decide (k < i)) then
   (ix t.Fields k).bind fun e2 =>
   if (e2.Name == e.Name) then
    some 21
   else
    if i64in (k + 1) then
     next2 (k + 1)
    else none
  else
   if i64in (i + 1) then
    next1 (i + 1)
   else none
def s_ref06_one_1 (N : Nat) (t : schema_Type) (next1 : Int → Option Int) (i : Int) : Option Int :=
  if (decide (i < (List.length t.Fields : Int))) then
   (ix t.Fields i).bind fun e =>
   (s_ref06_Name N e.Name).bind fun name2 =>
   if name2 then
    (s_ref04_Word N e.Kind).bind fun word =>
    if (word == []) then
     some 11
    else
     loop1 (s_ref06_one_2 N t i e next1) N 0
   else
    some 4
  else
   some 0
def s_ref06_one (N : Nat) (t : schema_Type) : Option Int :=
  (s_ref06_Name N t.Name).bind fun name =>
  if name then
   if (decide ((List.length t.Fields : Int) > 6)) then
    some 5
   else
    loop1 (s_ref06_one_1 N t) N 0
  else
   some 4
def s_ref06_Check_2 (N : Nat) (l : List schema_Type) (i : Int) (e : schema_Type) (next1 : Int → Option Int) (next2 : Int → Option Int) (k : Int) : Option Int :=
  if (decide (k < i)) then
   (ix l k).bind fun e2 =>
   if (e2.Name == e.Name) then
    some 21
   else
    if i64in (k + 1) then
     next2 (k + 1)
    else none
  else
   if i64in (i + 1) then
    next1 (i + 1)
   else none
def s_ref06_Check_1 (N : Nat) (l : List schema_Type) (next1 : Int → Option Int) (i : Int) : Option Int :=
  if (decide (i < (List.length l : Int))) then
   (ix l i).bind fun e =>
   (s_ref06_one N e).bind fun one =>
   if (one != 0) then
    some one
   else
    loop1 (s_ref06_Check_2 N l i e next1) N 0
  else
   some 0
def s_ref06_Check (N : Nat) (l : List schema_Type) : Option Int :=
  if (decide ((List.length l : Int) > 8)) then
   some 5
  else
   loop1 (s_ref06_Check_1 N l) N 0
def s_ref32_New_1 (N : Nat) (types : List schema_Type) (sources : Int) (next1 : Int → (List gate_Source) → Option (gate_Gate × Int)) (i : Int) (ys : List gate_Source) : Option (gate_Gate × Int) :=
  if (decide (i < sources)) then
   if (List.length ys + 1) * 24 ≤ 140737488355328 then
    if i64in (i + 1) then
     next1 (i + 1) (ys ++ [(gate_Source.mk 0 (-1) false)])
    else none
   else none
  else
   some ((gate_Gate.mk types ys), 0)
def s_ref32_New (N : Nat) (types : List schema_Type) (sources : Int) : Option (gate_Gate × Int) :=
  (s_ref06_Check N types).bind fun chec =>
  if (chec != 0) then
   some ((gate_Gate.mk [] []), 2)
  else
   if (decide (sources < 1)) then
    some ((gate_Gate.mk [] []), 2)
   else
    if (decide (sources > 16)) then
     some ((gate_Gate.mk [] []), 2)
    else
     loop2 (s_ref32_New_1 N types sources) N 0 []
def s_law06_Back_2 (N : Nat) (i : Int) (ys : List schema_Type) (e : schema_Type) (next1 : Int → (List schema_Type) → Option (List schema_Type)) (next2 : Int → (List schema_Field) → Option (List schema_Type)) (k : Int) (ys2 : List schema_Field) : Option (List schema_Type) :=
  if (decide (k < (List.length e.Fields : Int))) then
   (ix e.Fields k).bind fun e2 =>
   if (List.length ys2 + 1) * 24 ≤ 140737488355328 then
    if i64in (k + 1) then
     next2 (k + 1) (ys2 ++ [e2])
    else none
   else none
  else
   if (List.length ys + 1) * 40 ≤ 140737488355328 then
    if i64in (i + 1) then
     next1 (i + 1) (ys ++ [(schema_Type.mk e.Name ys2)])
    else none
   else none
def s_law06_Back_1 (N : Nat) (l : List schema_Type) (next1 : Int → (List schema_Type) → Option (List schema_Type)) (i : Int) (ys : List schema_Type) : Option (List schema_Type) :=
  if (decide (i < (List.length l : Int))) then
   (ix l i).bind fun e =>
   loop2 (s_law06_Back_2 N i ys e next1) N 0 []
  else
   some ys
def s_law06_Back (N : Nat) (l : List schema_Type) : Option (List schema_Type) :=
  loop2 (s_law06_Back_1 N l) N 0 []
def s_law32_Back_1 (N : Nat) (g : gate_Gate) (back : List schema_Type) (next1 : Int → (List gate_Source) → Option gate_Gate) (i : Int) (ys : List gate_Source) : Option gate_Gate :=
  if (decide (i < (List.length g.L : Int))) then
   (ix g.L i).bind fun e =>
   if (List.length ys + 1) * 24 ≤ 140737488355328 then
    if i64in (i + 1) then
     next1 (i + 1) (ys ++ [e])
    else none
   else none
  else
   some (gate_Gate.mk back ys)
def s_law32_Back (N : Nat) (g : gate_Gate) : Option gate_Gate :=
  (s_law06_Back N g.Types).bind fun back =>
  loop2 (s_law32_Back_1 N g back) N 0 []
def s_ref06_Same_2 (N : Nat) (i : Int) (e : schema_Type) (e2 : schema_Type) (next1 : Int → Option Bool) (next2 : Int → Option Bool) (k : Int) : Option Bool :=
  if (decide (k < (List.length e.Fields : Int))) then
   (ix e.Fields k).bind fun e3 =>
   (ix e2.Fields k).bind fun e4 =>
   if ((e3.Name == e4.Name) && (e3.Kind == e4.Kind)) then
    if i64in (k + 1) then
     next2 (k + 1)
    else none
   else
    some false
  else
   if i64in (i + 1) then
    next1 (i + 1)
   else none
def s_ref06_Same_1 (N : Nat) (a : List schema_Type) (b : List schema_Type) (next1 : Int → Option Bool) (i : Int) : Option Bool :=
  if (decide (i < (List.length a : Int))) then
   (ix a i).bind fun e =>
   (ix b i).bind fun e2 =>
   if (e.Name == e2.Name) then
    if ((List.length e.Fields : Int) != (List.length e2.Fields : Int)) then
     some false
    else
     loop1 (s_ref06_Same_2 N i e e2 next1) N 0
   else
    some false
  else
   some true
def s_ref06_Same (N : Nat) (a : List schema_Type) (b : List schema_Type) : Option Bool :=
  if ((List.length a : Int) != (List.length b : Int)) then
   some false
  else
   loop1 (s_ref06_Same_1 N a b) N 0
def s_ref32_Same_1 (N : Nat) (a : gate_Gate) (b : gate_Gate) (next1 : Int → Option Bool) (i : Int) : Option Bool :=
  if (decide (i < (List.length a.L : Int))) then
   (ix a.L i).bind fun e =>
   (ix b.L i).bind fun e2 =>
   if ((e.Front == e2.Front) && ((e.Last == e2.Last) && (e.Closed == e2.Closed))) then
    if i64in (i + 1) then
     next1 (i + 1)
    else none
   else
    some false
  else
   some true
def s_ref32_Same (N : Nat) (a : gate_Gate) (b : gate_Gate) : Option Bool :=
  (s_ref06_Same N a.Types b.Types).bind fun same =>
  if same then
   if ((List.length a.L : Int) != (List.length b.L : Int)) then
    some false
   else
    loop1 (s_ref32_Same_1 N a b) N 0
  else
   some false
def s_law04_Small (N : Nat) (v : value_Value) : Option Int :=
  if i64in ((List.length v.Text : Int) - 100) then
   some (max 0 ((List.length v.Text : Int) - 100))
  else none
def s_law07_Over_2 (N : Nat) (i : Int) (e : event_Event) (next1 : Int → Option Int) (next2 : Int → Option Int) (k : Int) : Option Int :=
  if (decide (k < (List.length e.Vals : Int))) then
   (ix e.Vals k).bind fun e2 =>
   (s_law04_Small N e2).bind fun smal =>
   if (decide (smal > 0)) then
    some 1
   else
    if i64in (k + 1) then
     next2 (k + 1)
    else none
  else
   if i64in (i + 1) then
    next1 (i + 1)
   else none
def s_law07_Over_1 (N : Nat) (l : List event_Event) (next1 : Int → Option Int) (i : Int) : Option Int :=
  if (decide (i < (List.length l : Int))) then
   (ix l i).bind fun e =>
   if (decide ((List.length e.Type_ : Int) > 40)) then
    some 1
   else
    if (decide ((List.length e.Vals : Int) > 12)) then
     some 1
    else
     loop1 (s_law07_Over_2 N i e next1) N 0
  else
   some 0
def s_law07_Over (N : Nat) (l : List event_Event) (most : Int) : Option Int :=
  if (decide ((List.length l : Int) > most)) then
   some 1
  else
   loop1 (s_law07_Over_1 N l) N 0
def s_law06_Vals_1 (N : Nat) (l : List value_Value) (next1 : Int → (List value_Value) → Option (List value_Value)) (i : Int) (ys : List value_Value) : Option (List value_Value) :=
  if (decide (i < (List.length l : Int))) then
   (ix l i).bind fun e =>
   if (List.length ys + 1) * 40 ≤ 140737488355328 then
    if i64in (i + 1) then
     next1 (i + 1) (ys ++ [e])
    else none
   else none
  else
   some ys
def s_law06_Vals (N : Nat) (l : List value_Value) : Option (List value_Value) :=
  loop2 (s_law06_Vals_1 N l) N 0 []
def s_law07_Own (N : Nat) (e : event_Event) : Option event_Event :=
  (s_law06_Vals N e.Vals).bind fun vals =>
  some (event_Event.mk e.Time e.Source e.Seq e.Type_ vals)
def s_ref06_Find_1 (N : Nat) (l : List schema_Type) (name : List UInt8) (next1 : Int → Option (schema_Type × Bool)) (i : Int) : Option (schema_Type × Bool) :=
  if (decide (i < (List.length l : Int))) then
   (ix l i).bind fun e =>
   if (e.Name == name) then
    some (e, true)
   else
    if i64in (i + 1) then
     next1 (i + 1)
    else none
  else
   some ((schema_Type.mk [] []), false)
def s_ref06_Find (N : Nat) (l : List schema_Type) (name : List UInt8) : Option (schema_Type × Bool) :=
  loop1 (s_ref06_Find_1 N l name) N 0
def s_ref03_Exp (N : Nat) (u : Int) : Option Int :=
  some (IntKind.i64.wrap (Int.tmod (IntKind.u64.wrap (Int.tdiv u 4503599627370496)) 2048))
def s_ref03_Frac (N : Nat) (u : Int) : Option Int :=
  some (Int.tmod u 4503599627370496)
def s_ref03_Kind (N : Nat) (u : Int) : Option Int :=
  (s_ref03_Exp N u).bind fun exp =>
  if (exp == 2047) then
   (s_ref03_Frac N u).bind fun frac =>
   if (frac != 0) then
    some 5
   else
    (s_ref03_Exp N u).bind fun exp2 =>
    if (exp2 == 2047) then
     some 4
    else
     (s_ref03_Exp N u).bind fun exp3 =>
     if (exp3 != 0) then
      some 3
     else
      (s_ref03_Frac N u).bind fun frac2 =>
      if (frac2 != 0) then
       some 2
      else
       some 1
  else
   (s_ref03_Exp N u).bind fun exp4 =>
   if (exp4 == 2047) then
    some 4
   else
    (s_ref03_Exp N u).bind fun exp5 =>
    if (exp5 != 0) then
     some 3
    else
     (s_ref03_Frac N u).bind fun frac3 =>
     if (frac3 != 0) then
      some 2
     else
      some 1
def s_ref03_Clean (N : Nat) (u : Int) : Option Int :=
  (s_ref03_Kind N u).bind fun kind =>
  if (kind == 5) then
   some 9221120237041090560
  else
   some u
def s_ref04_Check (N : Nat) (v : value_Value) : Option Int :=
  if (decide (v.Kind < 1)) then
   some 11
  else
   if (decide (v.Kind > 4)) then
    some 11
   else
    if (v.Kind == 1) then
     if (decide (v.N < (-4611686018427387904))) then
      some 8
     else
      if (decide (v.N > 4611686018427387904)) then
       some 8
      else
       if (v.Bits != 0) then
        some 2
       else
        if (v.Text == []) then
         some 0
        else
         some 2
    else
     if (v.Kind == 2) then
      if (decide (v.N < 0)) then
       some 8
      else
       if (decide (v.N > 1)) then
        some 8
       else
        if (v.Bits != 0) then
         some 2
        else
         if (v.Text == []) then
          some 0
         else
          some 2
     else
      if (v.Kind == 3) then
       (s_ref03_Clean N v.Bits).bind fun clea =>
       if (clea != v.Bits) then
        some 4
       else
        if (v.N != 0) then
         some 2
        else
         if (v.Text == []) then
          some 0
         else
          some 2
      else
       if (decide ((List.length v.Text : Int) > 24)) then
        some 5
       else
        if (v.N != 0) then
         some 2
        else
         if (v.Bits != 0) then
          some 2
         else
          some 0
def s_ref06_Fits_1 (N : Nat) (t : schema_Type) (vals : List value_Value) (next1 : Int → Option Int) (i : Int) : Option Int :=
  if (decide (i < (List.length vals : Int))) then
   (ix vals i).bind fun e =>
   (s_ref04_Check N e).bind fun chec =>
   if (chec != 0) then
    some chec
   else
    (ix t.Fields i).bind fun e2 =>
    if (e.Kind != e2.Kind) then
     some 19
    else
     if i64in (i + 1) then
      next1 (i + 1)
     else none
  else
   some 0
def s_ref06_Fits (N : Nat) (t : schema_Type) (vals : List value_Value) : Option Int :=
  if ((List.length vals : Int) != (List.length t.Fields : Int)) then
   some 5
  else
   loop1 (s_ref06_Fits_1 N t vals) N 0
def s_ref07_Check (N : Nat) (types : List schema_Type) (e : event_Event) : Option Int :=
  (s_ref06_Check N types).bind fun chec =>
  if (chec != 0) then
   some 2
  else
   if (decide (e.Time < 0)) then
    some 8
   else
    if (decide (e.Time > 1099511627776)) then
     some 8
    else
     if (decide (e.Source < 0)) then
      some 8
     else
      if (decide (e.Source ≥ 16)) then
       some 8
      else
       if (decide (e.Seq < 0)) then
        some 8
       else
        if (decide (e.Seq > 1099511627776)) then
         some 8
        else
         (s_ref06_Find N types e.Type_).bind fun find =>
         if find.2 then
          (s_ref06_Fits N find.1 e.Vals).bind fun fits =>
          some fits
         else
          some 6
def s_ref32_open (N : Nat) (g : gate_Gate) (s : Int) : Option Int :=
  if (decide (s < 0)) then
   some 17
  else
   if (decide (s ≥ (List.length g.L : Int))) then
    some 17
   else
    (ix g.L s).bind fun e =>
    if e.Closed then
     some 20
    else
     some 0
def s_ref32_Why (N : Nat) (g : gate_Gate) (e : event_Event) : Option Int :=
  (s_ref07_Check N g.Types e).bind fun chec =>
  if (chec != 0) then
   some chec
  else
   (s_ref32_open N g e.Source).bind fun vopen =>
   if (vopen != 0) then
    some vopen
   else
    (ix g.L e.Source).bind fun e2 =>
    if (decide (e.Time < e2.Front)) then
     some 13
    else
     if (decide (e.Seq ≤ e2.Last)) then
      some 12
     else
      some 0
def s_ref32_with (N : Nat) (g : gate_Gate) (s : Int) (x : gate_Source) : Option gate_Gate :=
  if (0 + List.length g.L) * 24 ≤ 140737488355328 then
   (ix g.L s).bind fun e =>
   some (gate_Gate.mk g.Types (List.set g.L (Int.toNat s) x))
  else none
def s_ref32_Accept (N : Nat) (g : gate_Gate) (e : event_Event) : Option (gate_Gate × Int) :=
  (s_ref32_Why N g e).bind fun why =>
  if (why != 0) then
   some (g, why)
  else
   (ix g.L e.Source).bind fun e2 =>
   (s_ref32_with N g e.Source (gate_Source.mk e2.Front e.Seq false)).bind fun vwith =>
   some (vwith, 0)
def s_ref32_Least_1 (N : Nat) (g : gate_Gate) (next1 : Int → Int → Option Int) (least : Int) (i : Int) : Option Int :=
  if (decide (i < (List.length g.L : Int))) then
   (ix g.L i).bind fun e =>
   if e.Closed then
    if i64in (i + 1) then
     next1 least (i + 1)
    else none
   else
    if i64in (i + 1) then
     next1 (min least e.Front) (i + 1)
    else none
  else
   some least
def s_ref32_Least (N : Nat) (g : gate_Gate) : Option Int :=
  loop2 (s_ref32_Least_1 N g) N 1099511627777 0
def s_ref32_Advance (N : Nat) (g : gate_Gate) (s : Int) (time : Int) : Option (gate_Gate × Int) :=
  (s_ref32_open N g s).bind fun vopen =>
  if (vopen != 0) then
   some (g, vopen)
  else
   (ix g.L s).bind fun e =>
   if (decide (time < e.Front)) then
    some (g, 8)
   else
    if (decide (time > 1099511627776)) then
     some (g, 8)
    else
     (s_ref32_with N g s (gate_Source.mk time e.Last false)).bind fun vwith =>
     some (vwith, 0)
def s_ref32_Close (N : Nat) (g : gate_Gate) (s : Int) : Option (gate_Gate × Int) :=
  (s_ref32_open N g s).bind fun vopen =>
  if (vopen != 0) then
   some (g, vopen)
  else
   (ix g.L s).bind fun e =>
   (s_ref32_with N g s (gate_Source.mk e.Front e.Last true)).bind fun vwith =>
   some (vwith, 0)
def s_law32_GateDoes_1 (N : Nat) (l : List law32_Op) (next1 : Int → (List schema_Type) → (List gate_Source) → (List schema_Type) → (List gate_Source) → Option Bool) (i : Int) (y : List schema_Type) (y2 : List gate_Source) (y3 : List schema_Type) (y4 : List gate_Source) : Option Bool :=
  if (decide (i < (List.length l : Int))) then
   (ix l i).bind fun e =>
   (s_law07_Over N [e.E] 1).bind fun over2 =>
   if (decide (over2 > 0)) then
    (s_law32_awake N).bind fun awak3 =>
    some awak3
   else
    (s_law07_Own N e.E).bind fun own2 =>
    (s_gate_Gate_Why N (gate_Gate.mk y y2) own2).bind fun why =>
    (s_ref32_Why N (gate_Gate.mk y3 y4) e.E).bind fun why2 =>
    if (why != why2) then
     some false
    else
     if (e.Kind == 0) then
      (s_gate_Gate_Accept N (gate_Gate.mk y y2) own2).bind fun acce =>
      (s_ref32_Accept N (gate_Gate.mk y3 y4) e.E).bind fun acce2 =>
      if (acce.2 != acce2.2) then
       some false
      else
       (s_law32_Back N acce.1).bind fun back2 =>
       (s_ref32_Same N back2 acce2.1).bind fun same2 =>
       if same2 then
        (s_gate_Gate_Least N acce.1).bind fun leas =>
        (s_ref32_Least N acce2.1).bind fun leas2 =>
        if (leas != leas2) then
         some false
        else
         (s_gate_Same N (gate_Gate.mk y y2) acce.1).bind fun same3 =>
         (s_law32_Back N (gate_Gate.mk y y2)).bind fun back3 =>
         (s_ref32_Same N back3 acce2.1).bind fun same4 =>
         if (same3 == same4) then
          if i64in (i + 1) then
           next1 (i + 1) acce.1.Types acce.1.L acce2.1.Types acce2.1.L
          else none
         else
          some false
       else
        some false
     else
      if (e.Kind == 1) then
       (s_gate_Gate_Advance N (gate_Gate.mk y y2) e.S e.A).bind fun adva =>
       (s_ref32_Advance N (gate_Gate.mk y3 y4) e.S e.A).bind fun adva2 =>
       if (adva.2 != adva2.2) then
        some false
       else
        (s_law32_Back N adva.1).bind fun back4 =>
        (s_ref32_Same N back4 adva2.1).bind fun same5 =>
        if same5 then
         (s_gate_Gate_Least N adva.1).bind fun leas3 =>
         (s_ref32_Least N adva2.1).bind fun leas4 =>
         if (leas3 != leas4) then
          some false
         else
          (s_gate_Same N (gate_Gate.mk y y2) adva.1).bind fun same6 =>
          (s_law32_Back N (gate_Gate.mk y y2)).bind fun back5 =>
          (s_ref32_Same N back5 adva2.1).bind fun same7 =>
          if (same6 == same7) then
           if i64in (i + 1) then
            next1 (i + 1) adva.1.Types adva.1.L adva2.1.Types adva2.1.L
           else none
          else
           some false
        else
         some false
      else
       (s_gate_Gate_Close N (gate_Gate.mk y y2) e.S).bind fun clos =>
       (s_ref32_Close N (gate_Gate.mk y3 y4) e.S).bind fun clos2 =>
       if (clos.2 != clos2.2) then
        some false
       else
        (s_law32_Back N clos.1).bind fun back6 =>
        (s_ref32_Same N back6 clos2.1).bind fun same8 =>
        if same8 then
         (s_gate_Gate_Least N clos.1).bind fun leas5 =>
         (s_ref32_Least N clos2.1).bind fun leas6 =>
         if (leas5 != leas6) then
          some false
         else
          (s_gate_Same N (gate_Gate.mk y y2) clos.1).bind fun same9 =>
          (s_law32_Back N (gate_Gate.mk y y2)).bind fun back7 =>
          (s_ref32_Same N back7 clos2.1).bind fun same10 =>
          if (same9 == same10) then
           if i64in (i + 1) then
            next1 (i + 1) clos.1.Types clos.1.L clos2.1.Types clos2.1.L
           else none
          else
           some false
        else
         some false
  else
   (s_law32_awake N).bind fun awak4 =>
   some awak4
def s_law32_GateDoes (N : Nat) (types : List schema_Type) (sources : Int) (l : List law32_Op) : Option Bool :=
  (s_law06_Over N types).bind fun over =>
  if (decide (over > 0)) then
   (s_law32_awake N).bind fun awak =>
   some awak
  else
   if (decide ((List.length l : Int) > 20)) then
    (s_law32_awake N).bind fun awak2 =>
    some awak2
   else
    (s_law06_Own N types).bind fun own =>
    (s_gate_New N own sources).bind fun new =>
    (s_ref32_New N types sources).bind fun new2 =>
    if (new.2 != new2.2) then
     some false
    else
     (s_law32_Back N new.1).bind fun back =>
     (s_ref32_Same N back new2.1).bind fun same =>
     if same then
      loop5 (s_law32_GateDoes_1 N l) N 0 new.1.Types new.1.L new2.1.Types new2.1.L
     else
      some false
end Go.Proofs.YtfblfapkpieckaaDoor.W
namespace Go.Proofs.YtfblfapkpieckaaDoor.W
open Go
open Go.Proofs.Tryd
set_option linter.unusedSimpArgs false
set_option linter.unusedVariables false
theorem is_law06_Over : Is prog 5 51 [(.t 2)] k_law06_Over := Is.mk' f5 _ false (by kernel_rfl) rfl (by kernel_rfl) (by kernel_rfl) (by kernel_rfl) (by kernel_rfl)
theorem is_schema_Name : Is prog 61 32 [(.t 2)] k_schema_Name := Is.mk' f61 _ false (by kernel_rfl) rfl (by kernel_rfl) (by kernel_rfl) (by kernel_rfl) (by kernel_rfl)
theorem is_slices_Clone_schema_Field : Is prog 63 8 [(.t 2)] k_slices_Clone_schema_Field := Is.mk' f63 _ false (by kernel_rfl) rfl (by kernel_rfl) (by kernel_rfl) (by kernel_rfl) (by kernel_rfl)
theorem is_stringslite_Index : Is prog 68 143 [(.t 4)] k_stringslite_Index := Is.mk' f68 _ false (by kernel_rfl) rfl (by kernel_rfl) (by kernel_rfl) (by kernel_rfl) (by kernel_rfl)
theorem is_strings_Index : Is prog 71 8 [(.t 4)] k_strings_Index := Is.mk' f71 _ false (by kernel_rfl) rfl (by kernel_rfl) (by kernel_rfl) (by kernel_rfl) (by kernel_rfl)
theorem is_schema_Parse : Is prog 26 77 [(.t 2), (.t 3)] k_schema_Parse := Is.mk' f26 _ false (by kernel_rfl) rfl (by kernel_rfl) (by kernel_rfl) (by kernel_rfl) (by kernel_rfl)
theorem is_slices_Clone_gate_Source : Is prog 54 8 [(.t 2)] k_slices_Clone_gate_Source := Is.mk' f54 _ false (by kernel_rfl) rfl (by kernel_rfl) (by kernel_rfl) (by kernel_rfl) (by kernel_rfl)
theorem is_event_Event_ID : Is prog 25 10 [(.cell 2 3 true)] k_event_Event_ID := Is.mk' f25 _ false (by kernel_rfl) rfl (by kernel_rfl) (by kernel_rfl) (by kernel_rfl) (by kernel_rfl)
theorem is_real_Clean : Is prog 77 10 [(.t 2)] k_real_Clean := Is.mk' f77 _ false (by kernel_rfl) rfl (by kernel_rfl) (by kernel_rfl) (by kernel_rfl) (by kernel_rfl)
theorem is_value_words_whole : Is prog 113 5 [(.cell 2 4 true)] k_value_words_whole := Is.mk' f113 _ false (by kernel_rfl) rfl (by kernel_rfl) (by kernel_rfl) (by kernel_rfl) (by kernel_rfl)
theorem is_gate_Gate_Why : Is prog 14 38 [(.t 4)] k_gate_Gate_Why := Is.mk' f14 _ false (by kernel_rfl) rfl (by kernel_rfl) (by kernel_rfl) (by kernel_rfl) (by kernel_rfl)
theorem is_gate_Gate_Close : Is prog 20 21 [(.cell 4 2 true), (.t 5)] k_gate_Gate_Close := Is.mk' f20 _ false (by kernel_rfl) rfl (by kernel_rfl) (by kernel_rfl) (by kernel_rfl) (by kernel_rfl)
theorem is_slices_EqualFunc_schema_Type : Is prog 55 32 [(.t 6)] k_slices_EqualFunc_schema_Type := Is.mk' f55 _ false (by kernel_rfl) rfl (by kernel_rfl) (by kernel_rfl) (by kernel_rfl) (by kernel_rfl)
theorem is_law06_Own : Is prog 8 47 [(.t 2)] k_law06_Own := Is.mk' f8 _ false (by kernel_rfl) rfl (by kernel_rfl) (by kernel_rfl) (by kernel_rfl) (by kernel_rfl)
theorem is_ref06_one : Is prog 49 48 [(.t 2)] k_ref06_one := Is.mk' f49 _ false (by kernel_rfl) rfl (by kernel_rfl) (by kernel_rfl) (by kernel_rfl) (by kernel_rfl)
theorem is_law32_Back : Is prog 11 27 [(.cell 2 2 true)] k_law32_Back := Is.mk' f11 _ false (by kernel_rfl) rfl (by kernel_rfl) (by kernel_rfl) (by kernel_rfl) (by kernel_rfl)
theorem is_law07_Over : Is prog 12 53 [(.t 4)] k_law07_Over := Is.mk' f12 _ false (by kernel_rfl) rfl (by kernel_rfl) (by kernel_rfl) (by kernel_rfl) (by kernel_rfl)
theorem is_ref03_Exp : Is prog 92 7 [(.t 2)] k_ref03_Exp := Is.mk' f92 _ false (by kernel_rfl) rfl (by kernel_rfl) (by kernel_rfl) (by kernel_rfl) (by kernel_rfl)
theorem is_ref04_Check : Is prog 67 87 [(.t 2)] k_ref04_Check := Is.mk' f67 _ false (by kernel_rfl) rfl (by kernel_rfl) (by kernel_rfl) (by kernel_rfl) (by kernel_rfl)
theorem is_ref32_Why : Is prog 15 41 [(.t 4)] k_ref32_Why := Is.mk' f15 _ false (by kernel_rfl) rfl (by kernel_rfl) (by kernel_rfl) (by kernel_rfl) (by kernel_rfl)
theorem is_ref32_Advance : Is prog 19 40 [(.cell 6 2 true), (.t 7)] k_ref32_Advance := Is.mk' f19 _ false (by kernel_rfl) rfl (by kernel_rfl) (by kernel_rfl) (by kernel_rfl) (by kernel_rfl)
end Go.Proofs.YtfblfapkpieckaaDoor.W
namespace Go.Proofs.YtfblfapkpieckaaDoor.W
open Go
open Go.Proofs.Tryd
set_option linter.unusedSimpArgs false
set_option linter.unusedVariables false
theorem is_schema_letter : Is prog 72 9 [(.t 2)] k_schema_letter := Is.mk' f72 _ false (by kernel_rfl) rfl (by kernel_rfl) (by kernel_rfl) (by kernel_rfl) (by kernel_rfl)
theorem is_schema_Type_Field : Is prog 62 24 [(.t 4), (.t 5)] k_schema_Type_Field := Is.mk' f62 _ false (by kernel_rfl) rfl (by kernel_rfl) (by kernel_rfl) (by kernel_rfl) (by kernel_rfl)
theorem is_schema_Find : Is prog 48 25 [(.cell 4 2 true), (.t 5)] k_schema_Find := Is.mk' f48 _ false (by kernel_rfl) rfl (by kernel_rfl) (by kernel_rfl) (by kernel_rfl) (by kernel_rfl)
theorem is_stringslite_Cut : Is prog 58 23 [(.t 4), (.t 5), (.t 6)] k_stringslite_Cut := Is.mk' f58 _ false (by kernel_rfl) rfl (by kernel_rfl) (by kernel_rfl) (by kernel_rfl) (by kernel_rfl)
theorem is_strings_genSplit : Is prog 59 66 [(.t 8)] k_strings_genSplit := Is.mk' f59 _ false (by kernel_rfl) rfl (by kernel_rfl) (by kernel_rfl) (by kernel_rfl) (by kernel_rfl)
theorem is_slices_Clone_schema_Type : Is prog 28 8 [(.t 2)] k_slices_Clone_schema_Type := Is.mk' f28 _ false (by kernel_rfl) rfl (by kernel_rfl) (by kernel_rfl) (by kernel_rfl) (by kernel_rfl)
theorem is_gate_Gate_Advance_L1 : Is prog 41 7 [] k_gate_Gate_Advance_L1 := Is.mk' f41 _ false (by kernel_rfl) rfl (by kernel_rfl) (by kernel_rfl) (by kernel_rfl) (by kernel_rfl)
theorem is_event_ID_may : Is prog 50 31 [(.t 2)] k_event_ID_may := Is.mk' f50 _ false (by kernel_rfl) rfl (by kernel_rfl) (by kernel_rfl) (by kernel_rfl) (by kernel_rfl)
theorem is_value_double_whole : Is prog 112 5 [(.cell 2 4 true)] k_value_double_whole := Is.mk' f112 _ false (by kernel_rfl) rfl (by kernel_rfl) (by kernel_rfl) (by kernel_rfl) (by kernel_rfl)
theorem is_value_Check : Is prog 66 47 [(.t 2)] k_value_Check := Is.mk' f66 _ false (by kernel_rfl) rfl (by kernel_rfl) (by kernel_rfl) (by kernel_rfl) (by kernel_rfl)
theorem is_gate_Gate_Accept_L1 : Is prog 39 8 [] k_gate_Gate_Accept_L1 := Is.mk' f39 _ false (by kernel_rfl) rfl (by kernel_rfl) (by kernel_rfl) (by kernel_rfl) (by kernel_rfl)
theorem is_gate_Gate_Least : Is prog 22 22 [(.t 2)] k_gate_Gate_Least := Is.mk' f22 _ false (by kernel_rfl) rfl (by kernel_rfl) (by kernel_rfl) (by kernel_rfl) (by kernel_rfl)
theorem is_schema_Same : Is prog 43 8 [(.t 4)] k_schema_Same := Is.mk' f43 _ false (by kernel_rfl) rfl (by kernel_rfl) (by kernel_rfl) (by kernel_rfl) (by kernel_rfl)
theorem is_ref06_Reserved : Is prog 75 18 [(.t 2)] k_ref06_Reserved := Is.mk' f75 _ false (by kernel_rfl) rfl (by kernel_rfl) (by kernel_rfl) (by kernel_rfl) (by kernel_rfl)
theorem is_ref06_Check : Is prog 29 39 [(.t 2)] k_ref06_Check := Is.mk' f29 _ false (by kernel_rfl) rfl (by kernel_rfl) (by kernel_rfl) (by kernel_rfl) (by kernel_rfl)
theorem is_ref06_Same : Is prog 30 71 [(.t 4)] k_ref06_Same := Is.mk' f30 _ false (by kernel_rfl) rfl (by kernel_rfl) (by kernel_rfl) (by kernel_rfl) (by kernel_rfl)
theorem is_law06_Vals : Is prog 33 19 [(.t 2)] k_law06_Vals := Is.mk' f33 _ false (by kernel_rfl) rfl (by kernel_rfl) (by kernel_rfl) (by kernel_rfl) (by kernel_rfl)
theorem is_ref03_Frac : Is prog 93 5 [(.t 2)] k_ref03_Frac := Is.mk' f93 _ false (by kernel_rfl) rfl (by kernel_rfl) (by kernel_rfl) (by kernel_rfl) (by kernel_rfl)
theorem is_ref06_Fits : Is prog 53 39 [(.t 4)] k_ref06_Fits := Is.mk' f53 _ false (by kernel_rfl) rfl (by kernel_rfl) (by kernel_rfl) (by kernel_rfl) (by kernel_rfl)
theorem is_ref32_with : Is prog 40 20 [(.cell 6 2 true)] k_ref32_with := Is.mk' f40 _ false (by kernel_rfl) rfl (by kernel_rfl) (by kernel_rfl) (by kernel_rfl) (by kernel_rfl)
theorem is_ref32_Close : Is prog 21 30 [(.cell 4 2 true), (.t 5)] k_ref32_Close := Is.mk' f21 _ false (by kernel_rfl) rfl (by kernel_rfl) (by kernel_rfl) (by kernel_rfl) (by kernel_rfl)
end Go.Proofs.YtfblfapkpieckaaDoor.W
namespace Go.Proofs.YtfblfapkpieckaaDoor.W
open Go
open Go.Proofs.Tryd
set_option linter.unusedSimpArgs false
set_option linter.unusedVariables false
theorem is_schema_Reserved : Is prog 73 15 [(.t 2)] k_schema_Reserved := Is.mk' f73 _ false (by kernel_rfl) rfl (by kernel_rfl) (by kernel_rfl) (by kernel_rfl) (by kernel_rfl)
theorem is_value_Word : Is prog 60 12 [(.t 2)] k_value_Word := Is.mk' f60 _ false (by kernel_rfl) rfl (by kernel_rfl) (by kernel_rfl) (by kernel_rfl) (by kernel_rfl)
theorem is_schema_Check : Is prog 27 34 [(.t 2)] k_schema_Check := Is.mk' f27 _ false (by kernel_rfl) rfl (by kernel_rfl) (by kernel_rfl) (by kernel_rfl) (by kernel_rfl)
theorem is_strings_Cut : Is prog 44 13 [(.t 4), (.t 5), (.t 6)] k_strings_Cut := Is.mk' f44 _ false (by kernel_rfl) rfl (by kernel_rfl) (by kernel_rfl) (by kernel_rfl) (by kernel_rfl)
theorem is_strings_Split : Is prog 45 8 [(.t 4)] k_strings_Split := Is.mk' f45 _ false (by kernel_rfl) rfl (by kernel_rfl) (by kernel_rfl) (by kernel_rfl) (by kernel_rfl)
theorem is_gate_New : Is prog 7 38 [(.cell 4 2 true), (.t 5)] k_gate_New := Is.mk' f7 _ false (by kernel_rfl) rfl (by kernel_rfl) (by kernel_rfl) (by kernel_rfl) (by kernel_rfl)
theorem is_gate_Gate_turn : Is prog 38 18 [(.cell 6 2 true)] k_gate_Gate_turn := Is.mk' f38 _ false (by kernel_rfl) rfl (by kernel_rfl) (by kernel_rfl) (by kernel_rfl) (by kernel_rfl)
theorem is_value_core : Is prog 76 25 [(.t 2)] k_value_core := Is.mk' f76 _ false (by kernel_rfl) rfl (by kernel_rfl) (by kernel_rfl) (by kernel_rfl) (by kernel_rfl)
theorem is_value_flag_whole : Is prog 111 5 [(.cell 2 4 true)] k_value_flag_whole := Is.mk' f111 _ false (by kernel_rfl) rfl (by kernel_rfl) (by kernel_rfl) (by kernel_rfl) (by kernel_rfl)
theorem is_schema_Fits : Is prog 51 36 [(.t 4)] k_schema_Fits := Is.mk' f51 _ false (by kernel_rfl) rfl (by kernel_rfl) (by kernel_rfl) (by kernel_rfl) (by kernel_rfl)
theorem is_gate_Gate_Accept : Is prog 16 19 [(.cell 4 2 true), (.t 5)] k_gate_Gate_Accept := Is.mk' f16 _ false (by kernel_rfl) rfl (by kernel_rfl) (by kernel_rfl) (by kernel_rfl) (by kernel_rfl)
theorem is_slices_Equal_schema_Field : Is prog 57 26 [(.t 4)] k_slices_Equal_schema_Field := Is.mk' f57 _ false (by kernel_rfl) rfl (by kernel_rfl) (by kernel_rfl) (by kernel_rfl) (by kernel_rfl)
theorem is_gate_Same : Is prog 24 38 [(.t 4)] k_gate_Same := Is.mk' f24 _ false (by kernel_rfl) rfl (by kernel_rfl) (by kernel_rfl) (by kernel_rfl) (by kernel_rfl)
theorem is_ref06_Name : Is prog 64 60 [(.t 2)] k_ref06_Name := Is.mk' f64 _ false (by kernel_rfl) rfl (by kernel_rfl) (by kernel_rfl) (by kernel_rfl) (by kernel_rfl)
theorem is_ref32_New : Is prog 9 34 [(.cell 4 2 true), (.t 5)] k_ref32_New := Is.mk' f9 _ false (by kernel_rfl) rfl (by kernel_rfl) (by kernel_rfl) (by kernel_rfl) (by kernel_rfl)
theorem is_ref32_Same : Is prog 10 39 [(.t 4)] k_ref32_Same := Is.mk' f10 _ false (by kernel_rfl) rfl (by kernel_rfl) (by kernel_rfl) (by kernel_rfl) (by kernel_rfl)
theorem is_law07_Own : Is prog 13 15 [(.cell 2 5 true)] k_law07_Own := Is.mk' f13 _ false (by kernel_rfl) rfl (by kernel_rfl) (by kernel_rfl) (by kernel_rfl) (by kernel_rfl)
theorem is_ref03_Kind : Is prog 87 20 [(.t 2)] k_ref03_Kind := Is.mk' f87 _ false (by kernel_rfl) rfl (by kernel_rfl) (by kernel_rfl) (by kernel_rfl) (by kernel_rfl)
theorem is_ref07_Check : Is prog 36 51 [(.t 4)] k_ref07_Check := Is.mk' f36 _ false (by kernel_rfl) rfl (by kernel_rfl) (by kernel_rfl) (by kernel_rfl) (by kernel_rfl)
theorem is_ref32_Accept : Is prog 17 28 [(.cell 4 2 true), (.t 5)] k_ref32_Accept := Is.mk' f17 _ false (by kernel_rfl) rfl (by kernel_rfl) (by kernel_rfl) (by kernel_rfl) (by kernel_rfl)
theorem is_law32_GateDoes : Is prog 3 186 [(.t 6)] k_law32_GateDoes := Is.mk' f3 _ false (by kernel_rfl) rfl (by kernel_rfl) (by kernel_rfl) (by kernel_rfl) (by kernel_rfl)
end Go.Proofs.YtfblfapkpieckaaDoor.W
namespace Go.Proofs.YtfblfapkpieckaaDoor.W
open Go
open Go.Proofs.Tryd
set_option linter.unusedSimpArgs false
set_option linter.unusedVariables false
theorem is_schema_tail : Is prog 74 17 [(.t 2)] k_schema_tail := Is.mk' f74 _ false (by kernel_rfl) rfl (by kernel_rfl) (by kernel_rfl) (by kernel_rfl) (by kernel_rfl)
theorem is_schema_Type_check : Is prog 47 45 [(.t 2)] k_schema_Type_check := Is.mk' f47 _ false (by kernel_rfl) rfl (by kernel_rfl) (by kernel_rfl) (by kernel_rfl) (by kernel_rfl)
theorem is_stringslite_IndexByte : Is prog 79 8 [(.t 4)] k_stringslite_IndexByte := Is.mk' f79 _ false (by kernel_rfl) rfl (by kernel_rfl) (by kernel_rfl) (by kernel_rfl) (by kernel_rfl)
theorem is_strings_Count : Is prog 70 34 [(.t 4)] k_strings_Count := Is.mk' f70 _ false (by kernel_rfl) rfl (by kernel_rfl) (by kernel_rfl) (by kernel_rfl) (by kernel_rfl)
theorem is_schema_kindOf : Is prog 46 13 [(.t 2)] k_schema_kindOf := Is.mk' f46 _ false (by kernel_rfl) rfl (by kernel_rfl) (by kernel_rfl) (by kernel_rfl) (by kernel_rfl)
theorem is_gate_Gate_open : Is prog 35 30 [(.cell 4 3 true), (.t 5)] k_gate_Gate_open := Is.mk' f35 _ false (by kernel_rfl) rfl (by kernel_rfl) (by kernel_rfl) (by kernel_rfl) (by kernel_rfl)
theorem is_gate_Gate_Advance : Is prog 18 33 [(.cell 6 2 true), (.t 7)] k_gate_Gate_Advance := Is.mk' f18 _ false (by kernel_rfl) rfl (by kernel_rfl) (by kernel_rfl) (by kernel_rfl) (by kernel_rfl)
theorem is_real_of : Is prog 86 5 [(.t 2)] k_real_of := Is.mk' f86 _ false (by kernel_rfl) rfl (by kernel_rfl) (by kernel_rfl) (by kernel_rfl) (by kernel_rfl)
theorem is_value_number_whole : Is prog 110 5 [(.cell 2 4 true)] k_value_number_whole := Is.mk' f110 _ false (by kernel_rfl) rfl (by kernel_rfl) (by kernel_rfl) (by kernel_rfl) (by kernel_rfl)
theorem is_event_Check : Is prog 34 27 [(.t 4)] k_event_Check := Is.mk' f34 _ false (by kernel_rfl) rfl (by kernel_rfl) (by kernel_rfl) (by kernel_rfl) (by kernel_rfl)
theorem is_gate_Gate_Close_L1 : Is prog 42 5 [] k_gate_Gate_Close_L1 := Is.mk' f42 _ false (by kernel_rfl) rfl (by kernel_rfl) (by kernel_rfl) (by kernel_rfl) (by kernel_rfl)
theorem is_schema_Same_L1 : Is prog 56 17 [(.t 4)] k_schema_Same_L1 := Is.mk' f56 _ false (by kernel_rfl) rfl (by kernel_rfl) (by kernel_rfl) (by kernel_rfl) (by kernel_rfl)
theorem is_law32_awake : Is prog 6 154 [(.t 0)] k_law32_awake := Is.mk' f6 _ false (by kernel_rfl) rfl (by kernel_rfl) (by kernel_rfl) (by kernel_rfl) (by kernel_rfl)
theorem is_ref04_Word : Is prog 65 11 [(.t 2)] k_ref04_Word := Is.mk' f65 _ false (by kernel_rfl) rfl (by kernel_rfl) (by kernel_rfl) (by kernel_rfl) (by kernel_rfl)
theorem is_law06_Back : Is prog 31 47 [(.t 2)] k_law06_Back := Is.mk' f31 _ false (by kernel_rfl) rfl (by kernel_rfl) (by kernel_rfl) (by kernel_rfl) (by kernel_rfl)
theorem is_law04_Small : Is prog 32 8 [(.t 2)] k_law04_Small := Is.mk' f32 _ false (by kernel_rfl) rfl (by kernel_rfl) (by kernel_rfl) (by kernel_rfl) (by kernel_rfl)
theorem is_ref06_Find : Is prog 52 25 [(.cell 4 2 true), (.t 5)] k_ref06_Find := Is.mk' f52 _ false (by kernel_rfl) rfl (by kernel_rfl) (by kernel_rfl) (by kernel_rfl) (by kernel_rfl)
theorem is_ref03_Clean : Is prog 78 7 [(.t 2)] k_ref03_Clean := Is.mk' f78 _ false (by kernel_rfl) rfl (by kernel_rfl) (by kernel_rfl) (by kernel_rfl) (by kernel_rfl)
theorem is_ref32_open : Is prog 37 20 [(.t 4)] k_ref32_open := Is.mk' f37 _ false (by kernel_rfl) rfl (by kernel_rfl) (by kernel_rfl) (by kernel_rfl) (by kernel_rfl)
theorem is_ref32_Least : Is prog 23 28 [(.t 2)] k_ref32_Least := Is.mk' f23 _ false (by kernel_rfl) rfl (by kernel_rfl) (by kernel_rfl) (by kernel_rfl) (by kernel_rfl)
end Go.Proofs.YtfblfapkpieckaaDoor.W
namespace Go.Proofs.YtfblfapkpieckaaDoor.W
open Go
open Go.Proofs.Tryd
set_option linter.unusedSimpArgs false
set_option linter.unusedVariables false
set_option maxHeartbeats 8000000 in
theorem c_schema_Reserved (N : Nat) (s : List UInt8) (r : Bool) (hsh : s_schema_Reserved N s = some r) : CRes prog 73 [.v (.string (bs s))] .nil (.ret (.v (.bool r))) .nil := by
  refine is_schema_Reserved.run hm 1000 _ rfl fun X hX => ?_
  simp only [List.length_cons, List.length_nil, List.replicate, Nat.reduceAdd, Nat.reduceSub, El, Et]
  rw [s_schema_Reserved] at hsh
  simp only [Erun, Ek, Ev, El, Ea, Eu, hX.res, hX.Q, List.getElem?_cons_zero, List.getElem?_cons_succ, seval, Et]
  repeat (with_reducible refine And.intro (by first | assumption | omega | (simp only [i64in] at *; omega)) ?_)
  by_cases h1 : (s == [119, 105, 116, 104, 105, 110]) = true
  · rw [if_pos h1] at hsh
    simp only [Erun, Ek, Ev, El, Ea, Eu, hX.res, hX.Q, List.getElem?_cons_zero, List.getElem?_cons_succ, seval, Et, h1]
    repeat (with_reducible refine And.intro (by first | assumption | omega | (simp only [i64in] at *; omega)) ?_)
    obtain rfl := Option.some.inj hsh
    refine post_give [] ?_
    simp [El2, El3, El4, Ev, El, Eb, Et, h1]
  · rw [if_neg h1] at hsh; replace h1 := neg_b h1
    simp only [Erun, Ek, Ev, El, Ea, Eu, hX.res, hX.Q, List.getElem?_cons_zero, List.getElem?_cons_succ, seval, Et, h1]
    repeat (with_reducible refine And.intro (by first | assumption | omega | (simp only [i64in] at *; omega)) ?_)
    by_cases h2 : (s == [98, 121]) = true
    · rw [if_pos h2] at hsh
      simp only [Erun, Ek, Ev, El, Ea, Eu, hX.res, hX.Q, List.getElem?_cons_zero, List.getElem?_cons_succ, seval, Et, h1, h2]
      repeat (with_reducible refine And.intro (by first | assumption | omega | (simp only [i64in] at *; omega)) ?_)
      obtain rfl := Option.some.inj hsh
      refine post_give [] ?_
      simp [El2, El3, El4, Ev, El, Eb, Et, h1, h2]
    · rw [if_neg h2] at hsh; replace h2 := neg_b h2
      simp only [Erun, Ek, Ev, El, Ea, Eu, hX.res, hX.Q, List.getElem?_cons_zero, List.getElem?_cons_succ, seval, Et, h1, h2]
      repeat (with_reducible refine And.intro (by first | assumption | omega | (simp only [i64in] at *; omega)) ?_)
      by_cases h3 : (s == [97, 110, 100]) = true
      · rw [if_pos h3] at hsh
        simp only [Erun, Ek, Ev, El, Ea, Eu, hX.res, hX.Q, List.getElem?_cons_zero, List.getElem?_cons_succ, seval, Et, h1, h2, h3]
        repeat (with_reducible refine And.intro (by first | assumption | omega | (simp only [i64in] at *; omega)) ?_)
        obtain rfl := Option.some.inj hsh
        refine post_give [] ?_
        simp [El2, El3, El4, Ev, El, Eb, Et, h1, h2, h3]
      · rw [if_neg h3] at hsh; replace h3 := neg_b h3
        simp only [Erun, Ek, Ev, El, Ea, Eu, hX.res, hX.Q, List.getElem?_cons_zero, List.getElem?_cons_succ, seval, Et, h1, h2, h3]
        repeat (with_reducible refine And.intro (by first | assumption | omega | (simp only [i64in] at *; omega)) ?_)
        by_cases h4 : (s == [111, 114]) = true
        · rw [if_pos h4] at hsh
          simp only [Erun, Ek, Ev, El, Ea, Eu, hX.res, hX.Q, List.getElem?_cons_zero, List.getElem?_cons_succ, seval, Et, h1, h2, h3, h4]
          repeat (with_reducible refine And.intro (by first | assumption | omega | (simp only [i64in] at *; omega)) ?_)
          obtain rfl := Option.some.inj hsh
          refine post_give [] ?_
          simp [El2, El3, El4, Ev, El, Eb, Et, h1, h2, h3, h4]
        · rw [if_neg h4] at hsh; replace h4 := neg_b h4
          simp only [Erun, Ek, Ev, El, Ea, Eu, hX.res, hX.Q, List.getElem?_cons_zero, List.getElem?_cons_succ, seval, Et, h1, h2, h3, h4]
          repeat (with_reducible refine And.intro (by first | assumption | omega | (simp only [i64in] at *; omega)) ?_)
          by_cases h5 : (s == [110, 111, 116]) = true
          · rw [if_pos h5] at hsh
            simp only [Erun, Ek, Ev, El, Ea, Eu, hX.res, hX.Q, List.getElem?_cons_zero, List.getElem?_cons_succ, seval, Et, h1, h2, h3, h4, h5]
            repeat (with_reducible refine And.intro (by first | assumption | omega | (simp only [i64in] at *; omega)) ?_)
            obtain rfl := Option.some.inj hsh
            refine post_give [] ?_
            simp [El2, El3, El4, Ev, El, Eb, Et, h1, h2, h3, h4, h5]
          · rw [if_neg h5] at hsh; replace h5 := neg_b h5
            simp only [Erun, Ek, Ev, El, Ea, Eu, hX.res, hX.Q, List.getElem?_cons_zero, List.getElem?_cons_succ, seval, Et, h1, h2, h3, h4, h5]
            repeat (with_reducible refine And.intro (by first | assumption | omega | (simp only [i64in] at *; omega)) ?_)
            by_cases h6 : (s == [97, 110, 121]) = true
            · rw [if_pos h6] at hsh
              simp only [Erun, Ek, Ev, El, Ea, Eu, hX.res, hX.Q, List.getElem?_cons_zero, List.getElem?_cons_succ, seval, Et, h1, h2, h3, h4, h5, h6]
              repeat (with_reducible refine And.intro (by first | assumption | omega | (simp only [i64in] at *; omega)) ?_)
              obtain rfl := Option.some.inj hsh
              refine post_give [] ?_
              simp [El2, El3, El4, Ev, El, Eb, Et, h1, h2, h3, h4, h5, h6]
            · rw [if_neg h6] at hsh; replace h6 := neg_b h6
              simp only [Erun, Ek, Ev, El, Ea, Eu, hX.res, hX.Q, List.getElem?_cons_zero, List.getElem?_cons_succ, seval, Et, h1, h2, h3, h4, h5, h6]
              repeat (with_reducible refine And.intro (by first | assumption | omega | (simp only [i64in] at *; omega)) ?_)
              by_cases h7 : (s == [110, 101, 120, 116]) = true
              · rw [if_pos h7] at hsh
                simp only [Erun, Ek, Ev, El, Ea, Eu, hX.res, hX.Q, List.getElem?_cons_zero, List.getElem?_cons_succ, seval, Et, h1, h2, h3, h4, h5, h6, h7]
                repeat (with_reducible refine And.intro (by first | assumption | omega | (simp only [i64in] at *; omega)) ?_)
                obtain rfl := Option.some.inj hsh
                refine post_give [] ?_
                simp [El2, El3, El4, Ev, El, Eb, Et, h1, h2, h3, h4, h5, h6, h7]
              · rw [if_neg h7] at hsh; replace h7 := neg_b h7
                simp only [Erun, Ek, Ev, El, Ea, Eu, hX.res, hX.Q, List.getElem?_cons_zero, List.getElem?_cons_succ, seval, Et, h1, h2, h3, h4, h5, h6, h7]
                repeat (with_reducible refine And.intro (by first | assumption | omega | (simp only [i64in] at *; omega)) ?_)
                by_cases h8 : (s == [115, 116, 114, 105, 99, 116]) = true
                · rw [if_pos h8] at hsh
                  simp only [Erun, Ek, Ev, El, Ea, Eu, hX.res, hX.Q, List.getElem?_cons_zero, List.getElem?_cons_succ, seval, Et, h1, h2, h3, h4, h5, h6, h7, h8]
                  repeat (with_reducible refine And.intro (by first | assumption | omega | (simp only [i64in] at *; omega)) ?_)
                  obtain rfl := Option.some.inj hsh
                  refine post_give [] ?_
                  simp [El2, El3, El4, Ev, El, Eb, Et, h1, h2, h3, h4, h5, h6, h7, h8]
                · rw [if_neg h8] at hsh; replace h8 := neg_b h8
                  simp only [Erun, Ek, Ev, El, Ea, Eu, hX.res, hX.Q, List.getElem?_cons_zero, List.getElem?_cons_succ, seval, Et, h1, h2, h3, h4, h5, h6, h7, h8]
                  repeat (with_reducible refine And.intro (by first | assumption | omega | (simp only [i64in] at *; omega)) ?_)
                  by_cases h9 : (s == [116, 114, 117, 101]) = true
                  · rw [if_pos h9] at hsh
                    simp only [Erun, Ek, Ev, El, Ea, Eu, hX.res, hX.Q, List.getElem?_cons_zero, List.getElem?_cons_succ, seval, Et, h1, h2, h3, h4, h5, h6, h7, h8, h9]
                    repeat (with_reducible refine And.intro (by first | assumption | omega | (simp only [i64in] at *; omega)) ?_)
                    obtain rfl := Option.some.inj hsh
                    refine post_give [] ?_
                    simp [El2, El3, El4, Ev, El, Eb, Et, h1, h2, h3, h4, h5, h6, h7, h8, h9]
                  · rw [if_neg h9] at hsh; replace h9 := neg_b h9
                    simp only [Erun, Ek, Ev, El, Ea, Eu, hX.res, hX.Q, List.getElem?_cons_zero, List.getElem?_cons_succ, seval, Et, h1, h2, h3, h4, h5, h6, h7, h8, h9]
                    repeat (with_reducible refine And.intro (by first | assumption | omega | (simp only [i64in] at *; omega)) ?_)
                    by_cases h10 : (s == [102, 97, 108, 115, 101]) = true
                    · rw [if_pos h10] at hsh
                      simp only [Erun, Ek, Ev, El, Ea, Eu, hX.res, hX.Q, List.getElem?_cons_zero, List.getElem?_cons_succ, seval, Et, h1, h2, h3, h4, h5, h6, h7, h8, h9, h10]
                      repeat (with_reducible refine And.intro (by first | assumption | omega | (simp only [i64in] at *; omega)) ?_)
                      obtain rfl := Option.some.inj hsh
                      refine post_give [] ?_
                      simp [El2, El3, El4, Ev, El, Eb, Et, h1, h2, h3, h4, h5, h6, h7, h8, h9, h10]
                    · rw [if_neg h10] at hsh; replace h10 := neg_b h10
                      simp only [Erun, Ek, Ev, El, Ea, Eu, hX.res, hX.Q, List.getElem?_cons_zero, List.getElem?_cons_succ, seval, Et, h1, h2, h3, h4, h5, h6, h7, h8, h9, h10]
                      repeat (with_reducible refine And.intro (by first | assumption | omega | (simp only [i64in] at *; omega)) ?_)
                      obtain rfl := Option.some.inj hsh
                      refine post_give [] ?_
                      simp [El2, El3, El4, Ev, El, Eb, Et, h1, h2, h3, h4, h5, h6, h7, h8, h9, h10]
set_option maxHeartbeats 8000000 in
theorem c_ref06_Reserved (N : Nat) (s : List UInt8) (r : Bool) (hsh : s_ref06_Reserved N s = some r) : CRes prog 75 [.v (.string (bs s))] .nil (.ret (.v (.bool r))) .nil := by
  refine is_ref06_Reserved.run hm 1000 _ rfl fun X hX => ?_
  simp only [List.length_cons, List.length_nil, List.replicate, Nat.reduceAdd, Nat.reduceSub, El, Et]
  rw [s_ref06_Reserved] at hsh
  simp only [Erun, Ek, Ev, El, Ea, Eu, hX.res, hX.Q, List.getElem?_cons_zero, List.getElem?_cons_succ, seval, Et]
  repeat (with_reducible refine And.intro (by first | assumption | omega | (simp only [i64in] at *; omega)) ?_)
  refine go_lessG hX [] [] [0] _ _ (by rfl) (by rfl) (by simp [El2, El3, El4, Ev, El, Eb, Et]) (by simp [El2, El3, El4, Ev, El, Eb, Et]) (by rfl) (by rfl) (by simp [El2, El3, El4, Ev, El, Eb, Et]) (go_loop1 (fun (i : Int) => ([.v (.string (bs s)), .any, .any, .own 0, .v (.int .i64 i)] ++ List.replicate 13 .any)) (fun (i : Int) => ⟨[], [.live 1 [.v (.string (bs [119, 105, 116, 104, 105, 110])), .v (.string (bs [98, 121])), .v (.string (bs [97, 110, 100])), .v (.string (bs [111, 114])), .v (.string (bs [110, 111, 116])), .v (.string (bs [97, 110, 121])), .v (.string (bs [110, 101, 120, 116])), .v (.string (bs [115, 116, 114, 105, 99, 116])), .v (.string (bs [116, 114, 117, 101])), .v (.string (bs [102, 97, 108, 115, 101]))]]⟩) 1000 (fun next1 ih1 i hsh => ?_) N 0 hsh)
  simp only [List.replicate, El] at ih1 ⊢
  rw [s_ref06_Reserved_1] at hsh
  simp only [Erun, Ek, Ev, El, Ea, Eu, hX.res, hX.Q, List.getElem?_cons_zero, List.getElem?_cons_succ, seval, Et]
  repeat (with_reducible refine And.intro (by first | assumption | omega | (simp only [i64in] at *; omega)) ?_)
  by_cases h1 : (decide (i < 10)) = true
  · rw [if_pos h1] at hsh
    obtain ⟨e, h2x, hsh⟩ := Option.bind_eq_some_iff.1 hsh
    obtain ⟨h2a, h2b, h2c, h2d⟩ := ix_some h2x
    have h2e : ([.v (.string (bs [119, 105, 116, 104, 105, 110])), .v (.string (bs [98, 121])), .v (.string (bs [97, 110, 100])), .v (.string (bs [111, 114])), .v (.string (bs [110, 111, 116])), .v (.string (bs [97, 110, 121])), .v (.string (bs [110, 101, 120, 116])), .v (.string (bs [115, 116, 114, 105, 99, 116])), .v (.string (bs [116, 114, 117, 101])), .v (.string (bs [102, 97, 108, 115, 101]))] : List AV)[Int.toNat i]? = some (.v (.string (bs e)) : AV) := by
      have := congrArg (Option.map sav) h2d
      rw [← List.getElem?_map] at this; exact this
    simp only [List.length_cons, List.length_nil, Nat.reduceAdd, Nat.zero_add] at h2b h2c
    simp only [Erun, Ek, Ev, El, Ea, Eu, hX.res, hX.Q, List.getElem?_cons_zero, List.getElem?_cons_succ, seval, Et, h1, h2a, h2b, h2c, h2d, h2e]
    repeat (with_reducible refine And.intro (by first | assumption | omega | (simp only [i64in] at *; omega)) ?_)
    by_cases h3 : (e == s) = true
    · rw [if_pos h3] at hsh
      simp only [Erun, Ek, Ev, El, Ea, Eu, hX.res, hX.Q, List.getElem?_cons_zero, List.getElem?_cons_succ, seval, Et, h1, h2a, h2b, h2c, h2d, h2e, h3]
      repeat (with_reducible refine And.intro (by first | assumption | omega | (simp only [i64in] at *; omega)) ?_)
      obtain rfl := Option.some.inj hsh
      refine post_give [] ?_
      simp [El2, El3, El4, Ev, El, Eb, Et, h1, h2a, h2b, h2c, h2d, h2e, h3]
    · rw [if_neg h3] at hsh; replace h3 := neg_b h3
      obtain ⟨h4, hsh⟩ := guard_some hsh
      simp only [Erun, Ek, Ev, El, Ea, Eu, hX.res, hX.Q, List.getElem?_cons_zero, List.getElem?_cons_succ, seval, Et, h1, h2a, h2b, h2c, h2d, h2e, h3, h4]
      repeat (with_reducible refine And.intro (by first | assumption | omega | (simp only [i64in] at *; omega)) ?_)
      exact go_lessG hX [] [] [0] _ _ (by rfl) (by rfl) (by simp [El2, El3, El4, Ev, El, Eb, Et, h1, h2a, h2b, h2c, h2d, h2e, h3, h4]) (by simp [El2, El3, El4, Ev, El, Eb, Et, h1, h2a, h2b, h2c, h2d, h2e, h3, h4]) (by rfl) (by rfl) (by simp [El2, El3, El4, Ev, El, Eb, Et, h1, h2a, h2b, h2c, h2d, h2e, h3, h4]) (ih1 (i + 1) hsh)
  · rw [if_neg h1] at hsh; replace h1 := neg_b h1
    simp only [Erun, Ek, Ev, El, Ea, Eu, hX.res, hX.Q, List.getElem?_cons_zero, List.getElem?_cons_succ, seval, Et, h1]
    repeat (with_reducible refine And.intro (by first | assumption | omega | (simp only [i64in] at *; omega)) ?_)
    obtain rfl := Option.some.inj hsh
    refine post_give [] ?_
    simp [El2, El3, El4, Ev, El, Eb, Et, h1]
set_option maxHeartbeats 8000000 in
theorem c_value_core (N : Nat) (v : value_Value) (r : U_value_holds) (hsh : s_value_core N v = some r) : CRes prog 76 [value_Value.av v] .nil (.ret (U_value_holds.av r)) .nil := by
  refine is_value_core.run hm 1000 _ rfl fun X hX => ?_
  simp only [List.length_cons, List.length_nil, List.replicate, Nat.reduceAdd, Nat.reduceSub, El, Et]
  rw [s_value_core] at hsh
  simp only [Erun, Ek, Ev, El, Ea, Eu, hX.res, hX.Q, List.getElem?_cons_zero, List.getElem?_cons_succ, seval, Et]
  repeat (with_reducible refine And.intro (by first | assumption | omega | (simp only [i64in] at *; omega)) ?_)
  by_cases h1 : (v.Kind == 1) = true
  · rw [if_pos h1] at hsh
    simp only [Erun, Ek, Ev, El, Ea, Eu, hX.res, hX.Q, List.getElem?_cons_zero, List.getElem?_cons_succ, seval, Et, h1]
    repeat (with_reducible refine And.intro (by first | assumption | omega | (simp only [i64in] at *; omega)) ?_)
    obtain rfl := Option.some.inj hsh
    refine post_give [] ?_
    simp [El2, El3, El4, Ev, El, Eb, Et, h1]
  · rw [if_neg h1] at hsh; replace h1 := neg_b h1
    simp only [Erun, Ek, Ev, El, Ea, Eu, hX.res, hX.Q, List.getElem?_cons_zero, List.getElem?_cons_succ, seval, Et, h1]
    repeat (with_reducible refine And.intro (by first | assumption | omega | (simp only [i64in] at *; omega)) ?_)
    by_cases h2 : (v.Kind == 2) = true
    · rw [if_pos h2] at hsh
      simp only [Erun, Ek, Ev, El, Ea, Eu, hX.res, hX.Q, List.getElem?_cons_zero, List.getElem?_cons_succ, seval, Et, h1, h2]
      repeat (with_reducible refine And.intro (by first | assumption | omega | (simp only [i64in] at *; omega)) ?_)
      obtain rfl := Option.some.inj hsh
      refine post_give [] ?_
      simp [El2, El3, El4, Ev, El, Eb, Et, h1, h2]
    · rw [if_neg h2] at hsh; replace h2 := neg_b h2
      simp only [Erun, Ek, Ev, El, Ea, Eu, hX.res, hX.Q, List.getElem?_cons_zero, List.getElem?_cons_succ, seval, Et, h1, h2]
      repeat (with_reducible refine And.intro (by first | assumption | omega | (simp only [i64in] at *; omega)) ?_)
      by_cases h3 : (v.Kind == 3) = true
      · rw [if_pos h3] at hsh
        simp only [Erun, Ek, Ev, El, Ea, Eu, hX.res, hX.Q, List.getElem?_cons_zero, List.getElem?_cons_succ, seval, Et, h1, h2, h3]
        repeat (with_reducible refine And.intro (by first | assumption | omega | (simp only [i64in] at *; omega)) ?_)
        obtain rfl := Option.some.inj hsh
        refine post_give [] ?_
        simp [El2, El3, El4, Ev, El, Eb, Et, h1, h2, h3]
      · rw [if_neg h3] at hsh; replace h3 := neg_b h3
        simp only [Erun, Ek, Ev, El, Ea, Eu, hX.res, hX.Q, List.getElem?_cons_zero, List.getElem?_cons_succ, seval, Et, h1, h2, h3]
        repeat (with_reducible refine And.intro (by first | assumption | omega | (simp only [i64in] at *; omega)) ?_)
        by_cases h4 : (v.Kind == 4) = true
        · rw [if_pos h4] at hsh
          simp only [Erun, Ek, Ev, El, Ea, Eu, hX.res, hX.Q, List.getElem?_cons_zero, List.getElem?_cons_succ, seval, Et, h1, h2, h3, h4]
          repeat (with_reducible refine And.intro (by first | assumption | omega | (simp only [i64in] at *; omega)) ?_)
          obtain rfl := Option.some.inj hsh
          refine post_give [] ?_
          simp [El2, El3, El4, Ev, El, Eb, Et, h1, h2, h3, h4]
        · rw [if_neg h4] at hsh; replace h4 := neg_b h4
          simp only [Erun, Ek, Ev, El, Ea, Eu, hX.res, hX.Q, List.getElem?_cons_zero, List.getElem?_cons_succ, seval, Et, h1, h2, h3, h4]
          repeat (with_reducible refine And.intro (by first | assumption | omega | (simp only [i64in] at *; omega)) ?_)
          obtain rfl := Option.some.inj hsh
          refine post_give [] ?_
          simp [El2, El3, El4, Ev, El, Eb, Et, h1, h2, h3, h4]
set_option maxHeartbeats 8000000 in
theorem c_ref06_Find (N : Nat) (l : List schema_Type) (name : List UInt8) (r : schema_Type × Bool) (hsh : s_ref06_Find N l name = some r) : CRes prog 52 [.sl 2 (List.map schema_Type.av l), .v (.string (bs name))] .nil (.ret (.tup [schema_Type.av r.1, .v (.bool r.2)])) .nil := by
  refine is_ref06_Find.run hm 1000 _ rfl fun X hX => ?_
  simp only [List.length_cons, List.length_nil, List.replicate, Nat.reduceAdd, Nat.reduceSub, El, Et]
  rw [s_ref06_Find] at hsh
  simp only [Erun, Ek, Ev, El, Ea, Eu, hX.res, hX.Q, List.getElem?_cons_zero, List.getElem?_cons_succ, seval, Et]
  repeat (with_reducible refine And.intro (by first | assumption | omega | (simp only [i64in] at *; omega)) ?_)
  refine go_lessG hX [] [0] [] _ _ (by rfl) (by rfl) (by simp [El2, El3, El4, Ev, El, Eb, Et]) (by simp [El2, El3, El4, Ev, El, Eb, Et]) (by rfl) (by rfl) (by simp [El2, El3, El4, Ev, El, Eb, Et]) (go_loop1 (fun (i : Int) => ([.sl 2 (List.map schema_Type.av l), .v (.string (bs name)), .any, .any, .ptr 0 0, .any, .v (.int .i64 i)] ++ List.replicate 18 .any)) (fun (i : Int) => ⟨[[.v (.string (bs [])), .emp]], []⟩) 1000 (fun next1 ih1 i hsh => ?_) N 0 hsh)
  simp only [List.replicate, El] at ih1 ⊢
  rw [s_ref06_Find_1] at hsh
  simp only [Erun, Ek, Ev, El, Ea, Eu, hX.res, hX.Q, List.getElem?_cons_zero, List.getElem?_cons_succ, seval, Et]
  repeat (with_reducible refine And.intro (by first | assumption | omega | (simp only [i64in] at *; omega)) ?_)
  by_cases h1 : (decide (i < (List.length l : Int))) = true
  · rw [if_pos h1] at hsh
    obtain ⟨e, h2x, hsh⟩ := Option.bind_eq_some_iff.1 hsh
    obtain ⟨h2a, h2b, h2c, h2d⟩ := ix_some h2x
    simp only [Erun, Ek, Ev, El, Ea, Eu, hX.res, hX.Q, List.getElem?_cons_zero, List.getElem?_cons_succ, seval, Et, h1, h2a, h2b, h2c, h2d]
    repeat (with_reducible refine And.intro (by first | assumption | omega | (simp only [i64in] at *; omega)) ?_)
    by_cases h3 : (e.Name == name) = true
    · rw [if_pos h3] at hsh
      simp only [Erun, Ek, Ev, El, Ea, Eu, hX.res, hX.Q, List.getElem?_cons_zero, List.getElem?_cons_succ, seval, Et, h1, h2a, h2b, h2c, h2d, h3]
      repeat (with_reducible refine And.intro (by first | assumption | omega | (simp only [i64in] at *; omega)) ?_)
      obtain rfl := Option.some.inj hsh
      refine post_give [] ?_
      simp [El2, El3, El4, Ev, El, Eb, Et, h1, h2a, h2b, h2c, h2d, h3]
    · rw [if_neg h3] at hsh; replace h3 := neg_b h3
      obtain ⟨h4, hsh⟩ := guard_some hsh
      simp only [Erun, Ek, Ev, El, Ea, Eu, hX.res, hX.Q, List.getElem?_cons_zero, List.getElem?_cons_succ, seval, Et, h1, h2a, h2b, h2c, h2d, h3, h4]
      repeat (with_reducible refine And.intro (by first | assumption | omega | (simp only [i64in] at *; omega)) ?_)
      exact go_lessG hX [] [0] [] _ _ (by rfl) (by rfl) (by simp [El2, El3, El4, Ev, El, Eb, Et, h1, h2a, h2b, h2c, h2d, h3, h4]) (by simp [El2, El3, El4, Ev, El, Eb, Et, h1, h2a, h2b, h2c, h2d, h3, h4]) (by rfl) (by rfl) (by simp [El2, El3, El4, Ev, El, Eb, Et, h1, h2a, h2b, h2c, h2d, h3, h4]) (ih1 (i + 1) hsh)
  · rw [if_neg h1] at hsh; replace h1 := neg_b h1
    simp only [Erun, Ek, Ev, El, Ea, Eu, hX.res, hX.Q, List.getElem?_cons_zero, List.getElem?_cons_succ, seval, Et, h1]
    repeat (with_reducible refine And.intro (by first | assumption | omega | (simp only [i64in] at *; omega)) ?_)
    obtain rfl := Option.some.inj hsh
    refine post_give [] ?_
    simp [El2, El3, El4, Ev, El, Eb, Et, h1]
set_option maxHeartbeats 8000000 in
theorem c_slices_Clone_schema_Field_own (N : Nat) (s : List schema_Field) (r : List schema_Field) (hsh : s_slices_Clone_schema_Field_own N s = some r) : CRes prog 63 [.sl 2 (List.map schema_Field.av s)] ⟨[], []⟩ (.ret (.own 0)) ⟨[], [.live 2 (List.map schema_Field.av r)]⟩ := by
  refine is_slices_Clone_schema_Field.run hm 1000 _ rfl fun X hX => ?_
  simp only [List.length_cons, List.length_nil, List.replicate, Nat.reduceAdd, Nat.reduceSub, El, Et]
  rw [s_slices_Clone_schema_Field_own] at hsh
  simp only [Erun, Ek, Ev, El, Ea, Eu, hX.res, hX.Q, List.getElem?_cons_zero, List.getElem?_cons_succ, seval, Et]
  repeat (with_reducible refine And.intro (by first | assumption | omega | (simp only [i64in] at *; omega)) ?_)
  refine vraw_alt (by rw [hX.P]; exact osn_nil (ne := false) (e := 82) rfl (by kernel_rfl) rfl) (fun h1 => ?_) (fun _ => ?_)
  · replace h1 : s = [] := by simpa using h1
    have hsh : (some []) = some r := by simpa [h1] using hsh
    refine run_go 1000 _ _ _ _ ?_
    simp only [Erun, Ek, Ev, El, Ea, Eu, hX.res, hX.Q, List.getElem?_cons_zero, List.getElem?_cons_succ, seval, Et, h1]
    repeat (with_reducible refine And.intro (by first | assumption | omega | (simp only [i64in] at *; omega)) ?_)
    obtain rfl := Option.some.inj hsh
    exact post_emp 2 [] [] [0] (by rfl) (by rfl) (by simp [El2, El3, El4, Ev, El, Eb, Et, h1]) (by simp [El2, El3, El4, Ev, El, Eb, Et, h1]) (by rfl) (by rfl) (by simp [El2, El3, El4, Ev, El, Eb, Et, h1])
  · refine run_go 1000 _ _ _ _ ?_
    obtain ⟨h2, hsh⟩ := guard_some hsh
    simp only [Erun, Ek, Ev, El, Ea, Eu, hX.res, hX.Q, List.getElem?_cons_zero, List.getElem?_cons_succ, seval, Et, h2]
    repeat (with_reducible refine And.intro (by first | assumption | omega | (simp only [i64in] at *; omega)) ?_)
    obtain rfl := Option.some.inj hsh
    exact post_all [] [] [1] (by rfl) (by rfl) (by simp [El2, El3, El4, Ev, El, Eb, Et, h2]) (by simp [El2, El3, El4, Ev, El, Eb, Et, h2]) (by rfl) (by rfl) (by simp [El2, El3, El4, Ev, El, Eb, Et, h2])
set_option maxHeartbeats 8000000 in
theorem c_gate_Gate_Advance_L1_v469 (N : Nat) (i : Int) (y : Int) (xs : List gate_Source) (r : List gate_Source) (hsh : s_gate_Gate_Advance_L1_v469 N i y xs = some r) : CRes prog 41 [.eptr 0 3 (Int.toNat i) 0, .ptr 0 0] ⟨[[.v (.int .i64 y)]], [.live 3 (List.map gate_Source.av xs)]⟩ (.ret (.tup [])) ⟨[[.v (.int .i64 y)]], [.live 3 (List.map gate_Source.av r)]⟩ := by
  refine is_gate_Gate_Advance_L1.run hm 1000 _ rfl fun X hX => ?_
  simp only [List.length_cons, List.length_nil, List.replicate, Nat.reduceAdd, Nat.reduceSub, El, Et]
  rw [s_gate_Gate_Advance_L1_v469] at hsh
  simp only [Erun, Ek, Ev, El, Ea, Eu, hX.res, hX.Q, List.getElem?_cons_zero, List.getElem?_cons_succ, seval, Et]
  repeat (with_reducible refine And.intro (by first | assumption | omega | (simp only [i64in] at *; omega)) ?_)
  refine (vraw_pure (fun _ => by rw [hX.P]; exact os_nckE rfl) (r := .eptr 0 3 (Int.toNat i) 0) ?_)
  refine run_go 1000 _ _ _ _ ?_
  obtain ⟨e, h1x, hsh⟩ := Option.bind_eq_some_iff.1 hsh
  obtain ⟨h1a, h1b, h1c, h1d⟩ := ix_some h1x
  have g2 : List.set (List.map gate_Source.av xs) (Int.toNat i) (.agg [.v (.int .i64 y), .v (.int .i64 e.Last), .v (.bool e.Closed)] : AV) = (List.map gate_Source.av (List.set xs (Int.toNat i) (gate_Source.mk y e.Last e.Closed))) := by simp [List.map_set, Et]
  simp only [Erun, Ek, Ev, El, Ea, Eu, hX.res, hX.Q, List.getElem?_cons_zero, List.getElem?_cons_succ, seval, Et, h1a, h1b, h1c, h1d, g2]
  repeat (with_reducible refine And.intro (by first | assumption | omega | (simp only [i64in] at *; omega)) ?_)
  obtain rfl := Option.some.inj hsh
  exact post_all [] [0] [0] (by rfl) (by rfl) (by simp [El2, El3, El4, Ev, El, Eb, Et, h1a, h1b, h1c, h1d]) (by simp [El2, El3, El4, Ev, El, Eb, Et, h1a, h1b, h1c, h1d]) (by rfl) (by rfl) (by simp [El2, El3, El4, Ev, El, Eb, Et, h1a, h1b, h1c, h1d])
set_option maxHeartbeats 8000000 in
theorem c_stringslite_IndexByte (N : Nat) (s : List UInt8) (c : Int) (r : Int) (hsh : s_stringslite_IndexByte N s c = some r) : CRes prog 79 [.v (.string (bs s)), .v (.int .u8 c)] .nil (.ret (.v (.int .i64 r))) .nil := by
  refine is_stringslite_IndexByte.run hm 1000 _ rfl fun X hX => ?_
  simp only [List.length_cons, List.length_nil, List.replicate, Nat.reduceAdd, Nat.reduceSub, El, Et]
  rw [s_stringslite_IndexByte] at hsh
  simp only [Erun, Ek, Ev, El, Ea, Eu, hX.res, hX.Q, List.getElem?_cons_zero, List.getElem?_cons_succ, seval, Et]
  repeat (with_reducible refine And.intro (by first | assumption | omega | (simp only [i64in] at *; omega)) ?_)
  refine .inr (vraw_pure (fun _ => by rw [hX.P]; exact os_indexByteString (ExtIs.mk' f88 (by kernel_rfl) (by kernel_rfl) (by kernel_rfl) (by kernel_rfl) (by kernel_rfl)) rfl rfl) (r := .v (.int .i64 (Lib.indexByte s (UInt8.ofNat (Int.toNat c))))) ?_)
  refine run_go 1000 _ _ _ _ ?_
  simp only [Erun, Ek, Ev, El, Ea, Eu, hX.res, hX.Q, List.getElem?_cons_zero, List.getElem?_cons_succ, seval, Et]
  repeat (with_reducible refine And.intro (by first | assumption | omega | (simp only [i64in] at *; omega)) ?_)
  obtain rfl := Option.some.inj hsh
  refine post_give [] ?_
  simp [El2, El3, El4, Ev, El, Eb, Et]
set_option maxHeartbeats 8000000 in
theorem c_value_words_whole (N : Nat) (s : List UInt8) (r : value_Value) (hsh : s_value_words_whole N s = some r) : CRes prog 113 [.v (.string (bs s))] .nil (.ret (value_Value.av r)) .nil := by
  refine is_value_words_whole.run hm 1000 _ rfl fun X hX => ?_
  simp only [List.length_cons, List.length_nil, List.replicate, Nat.reduceAdd, Nat.reduceSub, El, Et]
  rw [s_value_words_whole] at hsh
  simp only [Erun, Ek, Ev, El, Ea, Eu, hX.res, hX.Q, List.getElem?_cons_zero, List.getElem?_cons_succ, seval, Et]
  repeat (with_reducible refine And.intro (by first | assumption | omega | (simp only [i64in] at *; omega)) ?_)
  obtain rfl := Option.some.inj hsh
  refine post_give [] ?_
  simp [El2, El3, El4, Ev, El, Eb, Et]
set_option maxHeartbeats 8000000 in
theorem c_value_flag_whole (N : Nat) (n : Int) (r : value_Value) (hsh : s_value_flag_whole N n = some r) : CRes prog 111 [.v (.int .i64 n)] .nil (.ret (value_Value.av r)) .nil := by
  refine is_value_flag_whole.run hm 1000 _ rfl fun X hX => ?_
  simp only [List.length_cons, List.length_nil, List.replicate, Nat.reduceAdd, Nat.reduceSub, El, Et]
  rw [s_value_flag_whole] at hsh
  simp only [Erun, Ek, Ev, El, Ea, Eu, hX.res, hX.Q, List.getElem?_cons_zero, List.getElem?_cons_succ, seval, Et]
  repeat (with_reducible refine And.intro (by first | assumption | omega | (simp only [i64in] at *; omega)) ?_)
  obtain rfl := Option.some.inj hsh
  refine post_give [] ?_
  simp [El2, El3, El4, Ev, El, Eb, Et]
set_option maxHeartbeats 8000000 in
theorem c_ref03_Exp (N : Nat) (u : Int) (r : Int) (hsh : s_ref03_Exp N u = some r) : CRes prog 92 [.v (.int .u64 u)] .nil (.ret (.v (.int .i64 r))) .nil := by
  refine is_ref03_Exp.run hm 1000 _ rfl fun X hX => ?_
  simp only [List.length_cons, List.length_nil, List.replicate, Nat.reduceAdd, Nat.reduceSub, El, Et]
  rw [s_ref03_Exp] at hsh
  simp only [Erun, Ek, Ev, El, Ea, Eu, hX.res, hX.Q, List.getElem?_cons_zero, List.getElem?_cons_succ, seval, Et]
  repeat (with_reducible refine And.intro (by first | assumption | omega | (simp only [i64in] at *; omega)) ?_)
  obtain rfl := Option.some.inj hsh
  refine post_give [] ?_
  simp [El2, El3, El4, Ev, El, Eb, Et]
end Go.Proofs.YtfblfapkpieckaaDoor.W
namespace Go.Proofs.YtfblfapkpieckaaDoor.W
open Go
open Go.Proofs.Tryd
set_option linter.unusedSimpArgs false
set_option linter.unusedVariables false
set_option maxHeartbeats 8000000 in
theorem c_ref06_Same (N : Nat) (a : List schema_Type) (b : List schema_Type) (r : Bool) (hsh : s_ref06_Same N a b = some r) : CRes prog 30 [.sl 2 (List.map schema_Type.av a), .sl 2 (List.map schema_Type.av b)] .nil (.ret (.v (.bool r))) .nil := by
  refine is_ref06_Same.run hm 1000 _ rfl fun X hX => ?_
  simp only [List.length_cons, List.length_nil, List.replicate, Nat.reduceAdd, Nat.reduceSub, El, Et]
  rw [s_ref06_Same] at hsh
  simp only [Erun, Ek, Ev, El, Ea, Eu, hX.res, hX.Q, List.getElem?_cons_zero, List.getElem?_cons_succ, seval, Et]
  repeat (with_reducible refine And.intro (by first | assumption | omega | (simp only [i64in] at *; omega)) ?_)
  by_cases h1 : ((List.length a : Int) != (List.length b : Int)) = true
  · rw [if_pos h1] at hsh
    simp only [Erun, Ek, Ev, El, Ea, Eu, hX.res, hX.Q, List.getElem?_cons_zero, List.getElem?_cons_succ, seval, Et, h1]
    repeat (with_reducible refine And.intro (by first | assumption | omega | (simp only [i64in] at *; omega)) ?_)
    obtain rfl := Option.some.inj hsh
    refine post_give [] ?_
    simp [El2, El3, El4, Ev, El, Eb, Et, h1]
  · rw [if_neg h1] at hsh; replace h1 := neg_b h1
    simp only [Erun, Ek, Ev, El, Ea, Eu, hX.res, hX.Q, List.getElem?_cons_zero, List.getElem?_cons_succ, seval, Et, h1]
    repeat (with_reducible refine And.intro (by first | assumption | omega | (simp only [i64in] at *; omega)) ?_)
    refine go_lessG hX [] [] [] _ _ (by rfl) (by rfl) (by simp [El2, El3, El4, Ev, El, Eb, Et, h1]) (by simp [El2, El3, El4, Ev, El, Eb, Et, h1]) (by rfl) (by rfl) (by simp [El2, El3, El4, Ev, El, Eb, Et, h1]) (go_loop1 (fun (i : Int) => ([.sl 2 (List.map schema_Type.av a), .sl 2 (List.map schema_Type.av b), .any, .any, .any, .v (.int .i64 i)] ++ List.replicate 65 .any)) (fun (i : Int) => ⟨[], []⟩) 1000 (fun next1 ih1 i hsh => ?_) N 0 hsh)
    simp only [List.replicate, El] at ih1 ⊢
    rw [s_ref06_Same_1] at hsh
    simp only [Erun, Ek, Ev, El, Ea, Eu, hX.res, hX.Q, List.getElem?_cons_zero, List.getElem?_cons_succ, seval, Et, h1]
    repeat (with_reducible refine And.intro (by first | assumption | omega | (simp only [i64in] at *; omega)) ?_)
    by_cases h2 : (decide (i < (List.length a : Int))) = true
    · rw [if_pos h2] at hsh
      obtain ⟨e, h3x, hsh⟩ := Option.bind_eq_some_iff.1 hsh
      obtain ⟨h3a, h3b, h3c, h3d⟩ := ix_some h3x
      obtain ⟨e2, h4x, hsh⟩ := Option.bind_eq_some_iff.1 hsh
      obtain ⟨h4a, h4b, h4c, h4d⟩ := ix_some h4x
      simp only [Erun, Ek, Ev, El, Ea, Eu, hX.res, hX.Q, List.getElem?_cons_zero, List.getElem?_cons_succ, seval, Et, h1, h2, h3a, h3b, h3c, h3d, h4a, h4b, h4c, h4d]
      repeat (with_reducible refine And.intro (by first | assumption | omega | (simp only [i64in] at *; omega)) ?_)
      by_cases h5 : (e.Name == e2.Name) = true
      · rw [if_pos h5] at hsh
        simp only [Erun, Ek, Ev, El, Ea, Eu, hX.res, hX.Q, List.getElem?_cons_zero, List.getElem?_cons_succ, seval, Et, h1, h2, h3a, h3b, h3c, h3d, h4a, h4b, h4c, h4d, h5]
        repeat (with_reducible refine And.intro (by first | assumption | omega | (simp only [i64in] at *; omega)) ?_)
        by_cases h6 : ((List.length e.Fields : Int) != (List.length e2.Fields : Int)) = true
        · rw [if_pos h6] at hsh
          simp only [Erun, Ek, Ev, El, Ea, Eu, hX.res, hX.Q, List.getElem?_cons_zero, List.getElem?_cons_succ, seval, Et, h1, h2, h3a, h3b, h3c, h3d, h4a, h4b, h4c, h4d, h5, h6]
          repeat (with_reducible refine And.intro (by first | assumption | omega | (simp only [i64in] at *; omega)) ?_)
          obtain rfl := Option.some.inj hsh
          refine post_give [] ?_
          simp [El2, El3, El4, Ev, El, Eb, Et, h1, h2, h3a, h3b, h3c, h3d, h4a, h4b, h4c, h4d, h5, h6]
        · rw [if_neg h6] at hsh; replace h6 := neg_b h6
          simp only [Erun, Ek, Ev, El, Ea, Eu, hX.res, hX.Q, List.getElem?_cons_zero, List.getElem?_cons_succ, seval, Et, h1, h2, h3a, h3b, h3c, h3d, h4a, h4b, h4c, h4d, h5, h6]
          repeat (with_reducible refine And.intro (by first | assumption | omega | (simp only [i64in] at *; omega)) ?_)
          refine go_lessG hX [] [] [] _ _ (by rfl) (by rfl) (by simp [El2, El3, El4, Ev, El, Eb, Et, h1, h2, h3a, h3b, h3c, h3d, h4a, h4b, h4c, h4d, h5, h6]) (by simp [El2, El3, El4, Ev, El, Eb, Et, h1, h2, h3a, h3b, h3c, h3d, h4a, h4b, h4c, h4d, h5, h6]) (by rfl) (by rfl) (by simp [El2, El3, El4, Ev, El, Eb, Et, h1, h2, h3a, h3b, h3c, h3d, h4a, h4b, h4c, h4d, h5, h6]) (go_loop1 (fun (k : Int) => ([.sl 2 (List.map schema_Type.av a), .sl 2 (List.map schema_Type.av b), .any, .any, .any, .v (.int .i64 i), .v (.int .i64 k)] ++ List.replicate 64 .any)) (fun (k : Int) => ⟨[], []⟩) 1000 (fun next2 ih2 k hsh => ?_) N 0 hsh)
          simp only [List.replicate, El] at ih2 ⊢
          rw [s_ref06_Same_2] at hsh
          simp only [Erun, Ek, Ev, El, Ea, Eu, hX.res, hX.Q, List.getElem?_cons_zero, List.getElem?_cons_succ, seval, Et, h1, h2, h3a, h3b, h3c, h3d, h4a, h4b, h4c, h4d, h5, h6]
          repeat (with_reducible refine And.intro (by first | assumption | omega | (simp only [i64in] at *; omega)) ?_)
          by_cases h7 : (decide (k < (List.length e.Fields : Int))) = true
          · rw [if_pos h7] at hsh
            obtain ⟨e3, h8x, hsh⟩ := Option.bind_eq_some_iff.1 hsh
            obtain ⟨h8a, h8b, h8c, h8d⟩ := ix_some h8x
            obtain ⟨e4, h9x, hsh⟩ := Option.bind_eq_some_iff.1 hsh
            obtain ⟨h9a, h9b, h9c, h9d⟩ := ix_some h9x
            simp only [Erun, Ek, Ev, El, Ea, Eu, hX.res, hX.Q, List.getElem?_cons_zero, List.getElem?_cons_succ, seval, Et, h1, h2, h3a, h3b, h3c, h3d, h4a, h4b, h4c, h4d, h5, h6, h7, h8a, h8b, h8c, h8d, h9a, h9b, h9c, h9d]
            repeat (with_reducible refine And.intro (by first | assumption | omega | (simp only [i64in] at *; omega)) ?_)
            by_cases h10 : ((e3.Name == e4.Name) && (e3.Kind == e4.Kind)) = true
            · rw [if_pos h10] at hsh
              obtain ⟨h11, hsh⟩ := guard_some hsh
              simp only [Erun, Ek, Ev, El, Ea, Eu, hX.res, hX.Q, List.getElem?_cons_zero, List.getElem?_cons_succ, seval, Et, h1, h2, h3a, h3b, h3c, h3d, h4a, h4b, h4c, h4d, h5, h6, h7, h8a, h8b, h8c, h8d, h9a, h9b, h9c, h9d, h10, h11]
              repeat (with_reducible refine And.intro (by first | assumption | omega | (simp only [i64in] at *; omega)) ?_)
              exact go_lessG hX [] [] [] _ _ (by rfl) (by rfl) (by simp [El2, El3, El4, Ev, El, Eb, Et, h1, h2, h3a, h3b, h3c, h3d, h4a, h4b, h4c, h4d, h5, h6, h7, h8a, h8b, h8c, h8d, h9a, h9b, h9c, h9d, h10, h11]) (by simp [El2, El3, El4, Ev, El, Eb, Et, h1, h2, h3a, h3b, h3c, h3d, h4a, h4b, h4c, h4d, h5, h6, h7, h8a, h8b, h8c, h8d, h9a, h9b, h9c, h9d, h10, h11]) (by rfl) (by rfl) (by simp [El2, El3, El4, Ev, El, Eb, Et, h1, h2, h3a, h3b, h3c, h3d, h4a, h4b, h4c, h4d, h5, h6, h7, h8a, h8b, h8c, h8d, h9a, h9b, h9c, h9d, h10, h11]) (ih2 (k + 1) hsh)
            · rw [if_neg h10] at hsh; replace h10 := neg_b h10
              simp only [Erun, Ek, Ev, El, Ea, Eu, hX.res, hX.Q, List.getElem?_cons_zero, List.getElem?_cons_succ, seval, Et, h1, h2, h3a, h3b, h3c, h3d, h4a, h4b, h4c, h4d, h5, h6, h7, h8a, h8b, h8c, h8d, h9a, h9b, h9c, h9d, h10]
              repeat (with_reducible refine And.intro (by first | assumption | omega | (simp only [i64in] at *; omega)) ?_)
              obtain rfl := Option.some.inj hsh
              refine post_give [] ?_
              simp [El2, El3, El4, Ev, El, Eb, Et, h1, h2, h3a, h3b, h3c, h3d, h4a, h4b, h4c, h4d, h5, h6, h7, h8a, h8b, h8c, h8d, h9a, h9b, h9c, h9d, h10]
          · rw [if_neg h7] at hsh; replace h7 := neg_b h7
            obtain ⟨h12, hsh⟩ := guard_some hsh
            simp only [Erun, Ek, Ev, El, Ea, Eu, hX.res, hX.Q, List.getElem?_cons_zero, List.getElem?_cons_succ, seval, Et, h1, h2, h3a, h3b, h3c, h3d, h4a, h4b, h4c, h4d, h5, h6, h7, h12]
            repeat (with_reducible refine And.intro (by first | assumption | omega | (simp only [i64in] at *; omega)) ?_)
            exact go_lessG hX [] [] [] _ _ (by rfl) (by rfl) (by simp [El2, El3, El4, Ev, El, Eb, Et, h1, h2, h3a, h3b, h3c, h3d, h4a, h4b, h4c, h4d, h5, h6, h7, h12]) (by simp [El2, El3, El4, Ev, El, Eb, Et, h1, h2, h3a, h3b, h3c, h3d, h4a, h4b, h4c, h4d, h5, h6, h7, h12]) (by rfl) (by rfl) (by simp [El2, El3, El4, Ev, El, Eb, Et, h1, h2, h3a, h3b, h3c, h3d, h4a, h4b, h4c, h4d, h5, h6, h7, h12]) (ih1 (i + 1) hsh)
      · rw [if_neg h5] at hsh; replace h5 := neg_b h5
        simp only [Erun, Ek, Ev, El, Ea, Eu, hX.res, hX.Q, List.getElem?_cons_zero, List.getElem?_cons_succ, seval, Et, h1, h2, h3a, h3b, h3c, h3d, h4a, h4b, h4c, h4d, h5]
        repeat (with_reducible refine And.intro (by first | assumption | omega | (simp only [i64in] at *; omega)) ?_)
        obtain rfl := Option.some.inj hsh
        refine post_give [] ?_
        simp [El2, El3, El4, Ev, El, Eb, Et, h1, h2, h3a, h3b, h3c, h3d, h4a, h4b, h4c, h4d, h5]
    · rw [if_neg h2] at hsh; replace h2 := neg_b h2
      simp only [Erun, Ek, Ev, El, Ea, Eu, hX.res, hX.Q, List.getElem?_cons_zero, List.getElem?_cons_succ, seval, Et, h1, h2]
      repeat (with_reducible refine And.intro (by first | assumption | omega | (simp only [i64in] at *; omega)) ?_)
      obtain rfl := Option.some.inj hsh
      refine post_give [] ?_
      simp [El2, El3, El4, Ev, El, Eb, Et, h1, h2]
set_option maxHeartbeats 8000000 in
theorem c_event_ID_may (N : Nat) (a : event_ID) (r : Bool) (hsh : s_event_ID_may N a = some r) : CRes prog 50 [event_ID.av a] .nil (.ret (.v (.bool r))) .nil := by
  refine is_event_ID_may.run hm 1000 _ rfl fun X hX => ?_
  simp only [List.length_cons, List.length_nil, List.replicate, Nat.reduceAdd, Nat.reduceSub, El, Et]
  rw [s_event_ID_may] at hsh
  simp only [Erun, Ek, Ev, El, Ea, Eu, hX.res, hX.Q, List.getElem?_cons_zero, List.getElem?_cons_succ, seval, Et]
  repeat (with_reducible refine And.intro (by first | assumption | omega | (simp only [i64in] at *; omega)) ?_)
  by_cases h1 : (decide (a.Time ≥ 0)) = true
  · rw [if_pos h1] at hsh
    simp only [Erun, Ek, Ev, El, Ea, Eu, hX.res, hX.Q, List.getElem?_cons_zero, List.getElem?_cons_succ, seval, Et, h1]
    repeat (with_reducible refine And.intro (by first | assumption | omega | (simp only [i64in] at *; omega)) ?_)
    by_cases h2 : (decide (a.Time ≤ 1099511627776)) = true
    · rw [if_pos h2] at hsh
      simp only [Erun, Ek, Ev, El, Ea, Eu, hX.res, hX.Q, List.getElem?_cons_zero, List.getElem?_cons_succ, seval, Et, h1, h2]
      repeat (with_reducible refine And.intro (by first | assumption | omega | (simp only [i64in] at *; omega)) ?_)
      by_cases h3 : (decide (a.Source ≥ 0)) = true
      · rw [if_pos h3] at hsh
        simp only [Erun, Ek, Ev, El, Ea, Eu, hX.res, hX.Q, List.getElem?_cons_zero, List.getElem?_cons_succ, seval, Et, h1, h2, h3]
        repeat (with_reducible refine And.intro (by first | assumption | omega | (simp only [i64in] at *; omega)) ?_)
        by_cases h4 : (decide (a.Source < 16)) = true
        · rw [if_pos h4] at hsh
          simp only [Erun, Ek, Ev, El, Ea, Eu, hX.res, hX.Q, List.getElem?_cons_zero, List.getElem?_cons_succ, seval, Et, h1, h2, h3, h4]
          repeat (with_reducible refine And.intro (by first | assumption | omega | (simp only [i64in] at *; omega)) ?_)
          by_cases h5 : (decide (a.Seq ≥ 0)) = true
          · rw [if_pos h5] at hsh
            simp only [Erun, Ek, Ev, El, Ea, Eu, hX.res, hX.Q, List.getElem?_cons_zero, List.getElem?_cons_succ, seval, Et, h1, h2, h3, h4, h5]
            repeat (with_reducible refine And.intro (by first | assumption | omega | (simp only [i64in] at *; omega)) ?_)
            obtain rfl := Option.some.inj hsh
            refine post_give [] ?_
            simp [El2, El3, El4, Ev, El, Eb, Et, h1, h2, h3, h4, h5]
          · rw [if_neg h5] at hsh; replace h5 := neg_b h5
            simp only [Erun, Ek, Ev, El, Ea, Eu, hX.res, hX.Q, List.getElem?_cons_zero, List.getElem?_cons_succ, seval, Et, h1, h2, h3, h4, h5]
            repeat (with_reducible refine And.intro (by first | assumption | omega | (simp only [i64in] at *; omega)) ?_)
            obtain rfl := Option.some.inj hsh
            refine post_give [] ?_
            simp [El2, El3, El4, Ev, El, Eb, Et, h1, h2, h3, h4, h5]
        · rw [if_neg h4] at hsh; replace h4 := neg_b h4
          simp only [Erun, Ek, Ev, El, Ea, Eu, hX.res, hX.Q, List.getElem?_cons_zero, List.getElem?_cons_succ, seval, Et, h1, h2, h3, h4]
          repeat (with_reducible refine And.intro (by first | assumption | omega | (simp only [i64in] at *; omega)) ?_)
          obtain rfl := Option.some.inj hsh
          refine post_give [] ?_
          simp [El2, El3, El4, Ev, El, Eb, Et, h1, h2, h3, h4]
      · rw [if_neg h3] at hsh; replace h3 := neg_b h3
        simp only [Erun, Ek, Ev, El, Ea, Eu, hX.res, hX.Q, List.getElem?_cons_zero, List.getElem?_cons_succ, seval, Et, h1, h2, h3]
        repeat (with_reducible refine And.intro (by first | assumption | omega | (simp only [i64in] at *; omega)) ?_)
        obtain rfl := Option.some.inj hsh
        refine post_give [] ?_
        simp [El2, El3, El4, Ev, El, Eb, Et, h1, h2, h3]
    · rw [if_neg h2] at hsh; replace h2 := neg_b h2
      simp only [Erun, Ek, Ev, El, Ea, Eu, hX.res, hX.Q, List.getElem?_cons_zero, List.getElem?_cons_succ, seval, Et, h1, h2]
      repeat (with_reducible refine And.intro (by first | assumption | omega | (simp only [i64in] at *; omega)) ?_)
      obtain rfl := Option.some.inj hsh
      refine post_give [] ?_
      simp [El2, El3, El4, Ev, El, Eb, Et, h1, h2]
  · rw [if_neg h1] at hsh; replace h1 := neg_b h1
    simp only [Erun, Ek, Ev, El, Ea, Eu, hX.res, hX.Q, List.getElem?_cons_zero, List.getElem?_cons_succ, seval, Et, h1]
    repeat (with_reducible refine And.intro (by first | assumption | omega | (simp only [i64in] at *; omega)) ?_)
    obtain rfl := Option.some.inj hsh
    refine post_give [] ?_
    simp [El2, El3, El4, Ev, El, Eb, Et, h1]
set_option maxHeartbeats 8000000 in
theorem c_value_Word (N : Nat) (kind : Int) (r : List UInt8) (hsh : s_value_Word N kind = some r) : CRes prog 60 [.v (.int .u8 kind)] .nil (.ret (.v (.string (bs r)))) .nil := by
  refine is_value_Word.run hm 1000 _ rfl fun X hX => ?_
  simp only [List.length_cons, List.length_nil, List.replicate, Nat.reduceAdd, Nat.reduceSub, El, Et]
  rw [s_value_Word] at hsh
  simp only [Erun, Ek, Ev, El, Ea, Eu, hX.res, hX.Q, List.getElem?_cons_zero, List.getElem?_cons_succ, seval, Et]
  repeat (with_reducible refine And.intro (by first | assumption | omega | (simp only [i64in] at *; omega)) ?_)
  by_cases h1 : (kind == 1) = true
  · rw [if_pos h1] at hsh
    simp only [Erun, Ek, Ev, El, Ea, Eu, hX.res, hX.Q, List.getElem?_cons_zero, List.getElem?_cons_succ, seval, Et, h1]
    repeat (with_reducible refine And.intro (by first | assumption | omega | (simp only [i64in] at *; omega)) ?_)
    obtain rfl := Option.some.inj hsh
    refine post_give [] ?_
    simp [El2, El3, El4, Ev, El, Eb, Et, h1]
  · rw [if_neg h1] at hsh; replace h1 := neg_b h1
    simp only [Erun, Ek, Ev, El, Ea, Eu, hX.res, hX.Q, List.getElem?_cons_zero, List.getElem?_cons_succ, seval, Et, h1]
    repeat (with_reducible refine And.intro (by first | assumption | omega | (simp only [i64in] at *; omega)) ?_)
    by_cases h2 : (kind == 2) = true
    · rw [if_pos h2] at hsh
      simp only [Erun, Ek, Ev, El, Ea, Eu, hX.res, hX.Q, List.getElem?_cons_zero, List.getElem?_cons_succ, seval, Et, h1, h2]
      repeat (with_reducible refine And.intro (by first | assumption | omega | (simp only [i64in] at *; omega)) ?_)
      obtain rfl := Option.some.inj hsh
      refine post_give [] ?_
      simp [El2, El3, El4, Ev, El, Eb, Et, h1, h2]
    · rw [if_neg h2] at hsh; replace h2 := neg_b h2
      simp only [Erun, Ek, Ev, El, Ea, Eu, hX.res, hX.Q, List.getElem?_cons_zero, List.getElem?_cons_succ, seval, Et, h1, h2]
      repeat (with_reducible refine And.intro (by first | assumption | omega | (simp only [i64in] at *; omega)) ?_)
      by_cases h3 : (kind == 3) = true
      · rw [if_pos h3] at hsh
        simp only [Erun, Ek, Ev, El, Ea, Eu, hX.res, hX.Q, List.getElem?_cons_zero, List.getElem?_cons_succ, seval, Et, h1, h2, h3]
        repeat (with_reducible refine And.intro (by first | assumption | omega | (simp only [i64in] at *; omega)) ?_)
        obtain rfl := Option.some.inj hsh
        refine post_give [] ?_
        simp [El2, El3, El4, Ev, El, Eb, Et, h1, h2, h3]
      · rw [if_neg h3] at hsh; replace h3 := neg_b h3
        simp only [Erun, Ek, Ev, El, Ea, Eu, hX.res, hX.Q, List.getElem?_cons_zero, List.getElem?_cons_succ, seval, Et, h1, h2, h3]
        repeat (with_reducible refine And.intro (by first | assumption | omega | (simp only [i64in] at *; omega)) ?_)
        by_cases h4 : (kind == 4) = true
        · rw [if_pos h4] at hsh
          simp only [Erun, Ek, Ev, El, Ea, Eu, hX.res, hX.Q, List.getElem?_cons_zero, List.getElem?_cons_succ, seval, Et, h1, h2, h3, h4]
          repeat (with_reducible refine And.intro (by first | assumption | omega | (simp only [i64in] at *; omega)) ?_)
          obtain rfl := Option.some.inj hsh
          refine post_give [] ?_
          simp [El2, El3, El4, Ev, El, Eb, Et, h1, h2, h3, h4]
        · rw [if_neg h4] at hsh; replace h4 := neg_b h4
          simp only [Erun, Ek, Ev, El, Ea, Eu, hX.res, hX.Q, List.getElem?_cons_zero, List.getElem?_cons_succ, seval, Et, h1, h2, h3, h4]
          repeat (with_reducible refine And.intro (by first | assumption | omega | (simp only [i64in] at *; omega)) ?_)
          obtain rfl := Option.some.inj hsh
          refine post_give [] ?_
          simp [El2, El3, El4, Ev, El, Eb, Et, h1, h2, h3, h4]
set_option maxHeartbeats 8000000 in
theorem c_gate_Gate_open (N : Nat) (g : gate_Gate) (s : Int) (r : gate_Source × Int) (hsh : s_gate_Gate_open N g s = some r) : CRes prog 35 [gate_Gate.av g, .v (.int .i64 s)] .nil (.ret (.tup [gate_Source.av r.1, .v (.int .i64 r.2)])) .nil := by
  refine is_gate_Gate_open.run hm 1000 _ rfl fun X hX => ?_
  simp only [List.length_cons, List.length_nil, List.replicate, Nat.reduceAdd, Nat.reduceSub, El, Et]
  rw [s_gate_Gate_open] at hsh
  simp only [Erun, Ek, Ev, El, Ea, Eu, hX.res, hX.Q, List.getElem?_cons_zero, List.getElem?_cons_succ, seval, Et]
  repeat (with_reducible refine And.intro (by first | assumption | omega | (simp only [i64in] at *; omega)) ?_)
  by_cases h1 : (decide (s < 0)) = true
  · rw [if_pos h1] at hsh
    simp only [Erun, Ek, Ev, El, Ea, Eu, hX.res, hX.Q, List.getElem?_cons_zero, List.getElem?_cons_succ, seval, Et, h1]
    repeat (with_reducible refine And.intro (by first | assumption | omega | (simp only [i64in] at *; omega)) ?_)
    obtain rfl := Option.some.inj hsh
    refine post_give [] ?_
    simp [El2, El3, El4, Ev, El, Eb, Et, h1]
  · rw [if_neg h1] at hsh; replace h1 := neg_b h1
    simp only [Erun, Ek, Ev, El, Ea, Eu, hX.res, hX.Q, List.getElem?_cons_zero, List.getElem?_cons_succ, seval, Et, h1]
    repeat (with_reducible refine And.intro (by first | assumption | omega | (simp only [i64in] at *; omega)) ?_)
    by_cases h2 : (decide (s ≥ (List.length g.L : Int))) = true
    · rw [if_pos h2] at hsh
      simp only [Erun, Ek, Ev, El, Ea, Eu, hX.res, hX.Q, List.getElem?_cons_zero, List.getElem?_cons_succ, seval, Et, h1, h2]
      repeat (with_reducible refine And.intro (by first | assumption | omega | (simp only [i64in] at *; omega)) ?_)
      obtain rfl := Option.some.inj hsh
      refine post_give [] ?_
      simp [El2, El3, El4, Ev, El, Eb, Et, h1, h2]
    · rw [if_neg h2] at hsh; replace h2 := neg_b h2
      obtain ⟨e, h3x, hsh⟩ := Option.bind_eq_some_iff.1 hsh
      obtain ⟨h3a, h3b, h3c, h3d⟩ := ix_some h3x
      simp only [Erun, Ek, Ev, El, Ea, Eu, hX.res, hX.Q, List.getElem?_cons_zero, List.getElem?_cons_succ, seval, Et, h1, h2, h3a, h3b, h3c, h3d]
      repeat (with_reducible refine And.intro (by first | assumption | omega | (simp only [i64in] at *; omega)) ?_)
      by_cases h4 : e.Closed = true
      · rw [if_pos h4] at hsh
        simp only [Erun, Ek, Ev, El, Ea, Eu, hX.res, hX.Q, List.getElem?_cons_zero, List.getElem?_cons_succ, seval, Et, h1, h2, h3a, h3b, h3c, h3d, h4]
        repeat (with_reducible refine And.intro (by first | assumption | omega | (simp only [i64in] at *; omega)) ?_)
        obtain rfl := Option.some.inj hsh
        refine post_give [] ?_
        simp [El2, El3, El4, Ev, El, Eb, Et, h1, h2, h3a, h3b, h3c, h3d, h4]
      · rw [if_neg h4] at hsh; replace h4 := neg_b h4
        simp only [Erun, Ek, Ev, El, Ea, Eu, hX.res, hX.Q, List.getElem?_cons_zero, List.getElem?_cons_succ, seval, Et, h1, h2, h3a, h3b, h3c, h3d, h4]
        repeat (with_reducible refine And.intro (by first | assumption | omega | (simp only [i64in] at *; omega)) ?_)
        obtain rfl := Option.some.inj hsh
        refine post_give [] ?_
        simp [El2, El3, El4, Ev, El, Eb, Et, h1, h2, h3a, h3b, h3c, h3d, h4]
set_option maxHeartbeats 8000000 in
theorem c_gate_Gate_Accept_L1_v149 (N : Nat) (i : Int) (y : Int) (y2 : Int) (y3 : Int) (y4 : List UInt8) (y5 : List value_Value) (xs : List gate_Source) (r : List gate_Source) (hsh : s_gate_Gate_Accept_L1_v149 N i y y2 y3 y4 y5 xs = some r) : CRes prog 39 [.eptr 0 3 (Int.toNat i) 0, .ptr 0 0] ⟨[[.v (.int .i64 y), .v (.int .i64 y2), .v (.int .i64 y3), .v (.string (bs y4)), .sl 4 (List.map value_Value.av y5)]], [.live 3 (List.map gate_Source.av xs)]⟩ (.ret (.tup [])) ⟨[[.v (.int .i64 y), .v (.int .i64 y2), .v (.int .i64 y3), .v (.string (bs y4)), .sl 4 (List.map value_Value.av y5)]], [.live 3 (List.map gate_Source.av r)]⟩ := by
  refine is_gate_Gate_Accept_L1.run hm 1000 _ rfl fun X hX => ?_
  simp only [List.length_cons, List.length_nil, List.replicate, Nat.reduceAdd, Nat.reduceSub, El, Et]
  rw [s_gate_Gate_Accept_L1_v149] at hsh
  simp only [Erun, Ek, Ev, El, Ea, Eu, hX.res, hX.Q, List.getElem?_cons_zero, List.getElem?_cons_succ, seval, Et]
  repeat (with_reducible refine And.intro (by first | assumption | omega | (simp only [i64in] at *; omega)) ?_)
  refine (vraw_pure (fun _ => by rw [hX.P]; exact os_nckE rfl) (r := .eptr 0 3 (Int.toNat i) 0) ?_)
  refine run_go 1000 _ _ _ _ ?_
  obtain ⟨e, h1x, hsh⟩ := Option.bind_eq_some_iff.1 hsh
  obtain ⟨h1a, h1b, h1c, h1d⟩ := ix_some h1x
  have g2 : List.set (List.map gate_Source.av xs) (Int.toNat i) (.agg [.v (.int .i64 e.Front), .v (.int .i64 y3), .v (.bool e.Closed)] : AV) = (List.map gate_Source.av (List.set xs (Int.toNat i) (gate_Source.mk e.Front y3 e.Closed))) := by simp [List.map_set, Et]
  simp only [Erun, Ek, Ev, El, Ea, Eu, hX.res, hX.Q, List.getElem?_cons_zero, List.getElem?_cons_succ, seval, Et, h1a, h1b, h1c, h1d, g2]
  repeat (with_reducible refine And.intro (by first | assumption | omega | (simp only [i64in] at *; omega)) ?_)
  obtain rfl := Option.some.inj hsh
  exact post_all [] [0] [0] (by rfl) (by rfl) (by simp [El2, El3, El4, Ev, El, Eb, Et, h1a, h1b, h1c, h1d]) (by simp [El2, El3, El4, Ev, El, Eb, Et, h1a, h1b, h1c, h1d]) (by rfl) (by rfl) (by simp [El2, El3, El4, Ev, El, Eb, Et, h1a, h1b, h1c, h1d])
set_option maxHeartbeats 8000000 in
theorem c_gate_Gate_Close_L1_v462 (N : Nat) (i : Int) (xs : List gate_Source) (r : List gate_Source) (hsh : s_gate_Gate_Close_L1_v462 N i xs = some r) : CRes prog 42 [.eptr 0 3 (Int.toNat i) 0] ⟨[], [.live 3 (List.map gate_Source.av xs)]⟩ (.ret (.tup [])) ⟨[], [.live 3 (List.map gate_Source.av r)]⟩ := by
  refine is_gate_Gate_Close_L1.run hm 1000 _ rfl fun X hX => ?_
  simp only [List.length_cons, List.length_nil, List.replicate, Nat.reduceAdd, Nat.reduceSub, El, Et]
  rw [s_gate_Gate_Close_L1_v462] at hsh
  simp only [Erun, Ek, Ev, El, Ea, Eu, hX.res, hX.Q, List.getElem?_cons_zero, List.getElem?_cons_succ, seval, Et]
  repeat (with_reducible refine And.intro (by first | assumption | omega | (simp only [i64in] at *; omega)) ?_)
  refine (vraw_pure (fun _ => by rw [hX.P]; exact os_nckE rfl) (r := .eptr 0 3 (Int.toNat i) 0) ?_)
  refine run_go 1000 _ _ _ _ ?_
  obtain ⟨e, h1x, hsh⟩ := Option.bind_eq_some_iff.1 hsh
  obtain ⟨h1a, h1b, h1c, h1d⟩ := ix_some h1x
  have g2 : List.set (List.map gate_Source.av xs) (Int.toNat i) (.agg [.v (.int .i64 e.Front), .v (.int .i64 e.Last), .v (.bool true)] : AV) = (List.map gate_Source.av (List.set xs (Int.toNat i) (gate_Source.mk e.Front e.Last true))) := by simp [List.map_set, Et]
  simp only [Erun, Ek, Ev, El, Ea, Eu, hX.res, hX.Q, List.getElem?_cons_zero, List.getElem?_cons_succ, seval, Et, h1a, h1b, h1c, h1d, g2]
  repeat (with_reducible refine And.intro (by first | assumption | omega | (simp only [i64in] at *; omega)) ?_)
  obtain rfl := Option.some.inj hsh
  exact post_all [] [] [0] (by rfl) (by rfl) (by simp [El2, El3, El4, Ev, El, Eb, Et, h1a, h1b, h1c, h1d]) (by simp [El2, El3, El4, Ev, El, Eb, Et, h1a, h1b, h1c, h1d]) (by rfl) (by rfl) (by simp [El2, El3, El4, Ev, El, Eb, Et, h1a, h1b, h1c, h1d])
set_option maxHeartbeats 8000000 in
theorem c_strings_Count_v724 (N : Nat) (s : List UInt8) (r : Int) (hsh : s_strings_Count_v724 N s = some r) : CRes prog 70 [.v (.string (bs s)), .v (.string (bs [32]))] .nil (.ret (.v (.int .i64 r))) .nil := by
  refine is_strings_Count.run hm 1000 _ rfl fun X hX => ?_
  simp only [List.length_cons, List.length_nil, List.replicate, Nat.reduceAdd, Nat.reduceSub, El, Et]
  rw [s_strings_Count_v724] at hsh
  simp only [Erun, Ek, Ev, El, Ea, Eu, hX.res, hX.Q, List.getElem?_cons_zero, List.getElem?_cons_succ, seval, Et]
  repeat (with_reducible refine And.intro (by first | assumption | omega | (simp only [i64in] at *; omega)) ?_)
  refine .inr (vraw_pure (fun _ => by rw [hX.P]; exact os_countString (ExtIs.mk' f85 (by kernel_rfl) (by kernel_rfl) (by kernel_rfl) (by kernel_rfl) (by kernel_rfl)) rfl rfl) (r := .v (.int .i64 ((Lib.countByte s (UInt8.ofNat (Int.toNat 32)) : Nat) : Int))) ?_)
  refine run_go 1000 _ _ _ _ ?_
  simp only [Erun, Ek, Ev, El, Ea, Eu, hX.res, hX.Q, List.getElem?_cons_zero, List.getElem?_cons_succ, seval, Et]
  repeat (with_reducible refine And.intro (by first | assumption | omega | (simp only [i64in] at *; omega)) ?_)
  obtain rfl := Option.some.inj hsh
  refine post_give [] ?_
  simp [El2, El3, El4, Ev, El, Eb, Et]
set_option maxHeartbeats 8000000 in
theorem c_law04_Small (N : Nat) (v : value_Value) (r : Int) (hsh : s_law04_Small N v = some r) : CRes prog 32 [value_Value.av v] .nil (.ret (.v (.int .i64 r))) .nil := by
  refine is_law04_Small.run hm 1000 _ rfl fun X hX => ?_
  simp only [List.length_cons, List.length_nil, List.replicate, Nat.reduceAdd, Nat.reduceSub, El, Et]
  rw [s_law04_Small] at hsh
  obtain ⟨h1, hsh⟩ := guard_some hsh
  simp only [Erun, Ek, Ev, El, Ea, Eu, hX.res, hX.Q, List.getElem?_cons_zero, List.getElem?_cons_succ, seval, Et, h1]
  repeat (with_reducible refine And.intro (by first | assumption | omega | (simp only [i64in] at *; omega)) ?_)
  refine (vraw_pure (fun _ => by rw [hX.P]; exact os_max rfl rfl) (r := .v (.int .i64 (max 0 ((List.length v.Text : Int) - 100)))) ?_)
  refine run_go 1000 _ _ _ _ ?_
  simp only [Erun, Ek, Ev, El, Ea, Eu, hX.res, hX.Q, List.getElem?_cons_zero, List.getElem?_cons_succ, seval, Et, h1]
  repeat (with_reducible refine And.intro (by first | assumption | omega | (simp only [i64in] at *; omega)) ?_)
  obtain rfl := Option.some.inj hsh
  refine post_give [] ?_
  simp [El2, El3, El4, Ev, El, Eb, Et, h1]
set_option maxHeartbeats 8000000 in
theorem c_event_Event_ID (N : Nat) (e : event_Event) (r : event_ID) (hsh : s_event_Event_ID N e = some r) : CRes prog 25 [event_Event.av e] .nil (.ret (event_ID.av r)) .nil := by
  refine is_event_Event_ID.run hm 1000 _ rfl fun X hX => ?_
  simp only [List.length_cons, List.length_nil, List.replicate, Nat.reduceAdd, Nat.reduceSub, El, Et]
  rw [s_event_Event_ID] at hsh
  simp only [Erun, Ek, Ev, El, Ea, Eu, hX.res, hX.Q, List.getElem?_cons_zero, List.getElem?_cons_succ, seval, Et]
  repeat (with_reducible refine And.intro (by first | assumption | omega | (simp only [i64in] at *; omega)) ?_)
  obtain rfl := Option.some.inj hsh
  refine post_give [] ?_
  simp [El2, El3, El4, Ev, El, Eb, Et]
end Go.Proofs.YtfblfapkpieckaaDoor.W
