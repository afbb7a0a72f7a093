/-
  NARROWER THAN 'FOR EVERY INPUT', by the rows' own cells (each row's printed sentence says how): JudgeLogic: laid · JudgeHolds: laid · JudgeAhead: laid.
  DERIVED. THE GIVEN ROWS OF THIS SEAT. 3 by the template 'for every input the law returns true; each argument reads behind the call as it read before'; 0 by the template 'total and deterministic' (their statements: YtbanfalnbhcknaaGreatDoorTotals.lean).
  GIVEN WITH THE SEED: the statements are not yours to turn. If you find one false, say at which input.
  Laid BY PROGRAM, IN A SANDBOX (cutbox-rows.mjs): the forced cells as the released guide's own fill.sh prints them over the translation 8e55aa8e57ae77af… (all of the seat's roots in one cut). By AI agents, Wed Nov 11 2026. No macro, syntax, notation, axiom, sorry.
-/
import Derived.Test.YtbanfalnbhcknaaGreatDoorChecked
import GoSem.PinnedTables
import GoSem.Claim
import GoSem.ClaimJoined
import GoSem.ClaimMapViews
import Derived.JoinedTies
import Derived.KernelRfl
namespace Go.Proofs.YtbanfalnbhcknaaGreatDoor
/- THE CELL 'sum', in the pinned program and in every row, IS THE sha256 OF THE DUMP (.gsa) THAT YtbanfalnbhcknaaGreatDoorProg.lean LOADS. Nothing in Lean hashes anything: it is a label: what it is worth is what the hold of that sum in a sandbox is worth. -/
noncomputable def Tryz.pinned : Pinned := { name := "ytbanfalnbhcknaagreatdoor", sum := "8e55aa8e57ae77afe57e90f7354f5ec13ace650a8e68bbbd191699ef41dc0eb5", checked := Tryz.checked }
namespace Rows
def none {H : Type} : Left H := { results := [], args := [] }

/- WHAT THE LISTED PACKAGE-LEVEL VARIABLES READ AS WHEN THE CALL BEGINS. Each datum BY PROGRAM (the guide's laid-datum.mjs) off the statement by which the dump's own 'gosem.cut.vars' lays the variable. In a bare row this is a premise. The card (YtbanfalnbhcknaaGreatDoorCards.lean) ties it to the program's text. -/
def laid_unicode_utf8_acceptRanges {H : Type} : DataW H := .agg [.agg [.lit (.int .u8 128), .lit (.int .u8 191)], .agg [.lit (.int .u8 160), .lit (.int .u8 191)], .agg [.lit (.int .u8 128), .lit (.int .u8 159)], .agg [.lit (.int .u8 144), .lit (.int .u8 191)], .agg [.lit (.int .u8 128), .lit (.int .u8 143)], .agg [.lit (.int .u8 0), .lit (.int .u8 0)], .agg [.lit (.int .u8 0), .lit (.int .u8 0)], .agg [.lit (.int .u8 0), .lit (.int .u8 0)], .agg [.lit (.int .u8 0), .lit (.int .u8 0)], .agg [.lit (.int .u8 0), .lit (.int .u8 0)], .agg [.lit (.int .u8 0), .lit (.int .u8 0)], .agg [.lit (.int .u8 0), .lit (.int .u8 0)], .agg [.lit (.int .u8 0), .lit (.int .u8 0)], .agg [.lit (.int .u8 0), .lit (.int .u8 0)], .agg [.lit (.int .u8 0), .lit (.int .u8 0)], .agg [.lit (.int .u8 0), .lit (.int .u8 0)]]
/-- One of Go's own tables, pinned by name: the form's constant. -/
def laid_unicode_utf8_first : DataW Unit := Go.Pinned.utf8First

/-- 'telltalelaw20.JudgeLogic': WHATEVER THE INPUT: true; the input reads as it did. -/
def judgeLogicSpec : ChangeSpec := { name := "judgeLogic", fn := fun _ => fun
  | [d1, d2, d3] => { results := [.lit (.bool true)], args := [d1, d2, d3] }
  | _ => none }
def judgeLogicRow : OpenClaim := { program := "ytbanfalnbhcknaagreatdoor", sum := "8e55aa8e57ae77afe57e90f7354f5ec13ace650a8e68bbbd191699ef41dc0eb5", func := "telltale/telltalelaw20.JudgeLogic", spec := "judgeLogic", inPlace := ["internal/bytealg.IndexByteString", "math.Float64frombits", "internal/bytealg.IndexString", "internal/bytealg.CountString"], unfollowed := true, recurses := true, named := ["internal/bytealg.MaxLen", "unicode/utf8.first", "unicode/utf8.acceptRanges"], apart := false, laid := [("unicode/utf8.acceptRanges", laid_unicode_utf8_acceptRanges), ("unicode/utf8.first", laid_unicode_utf8_first)] }
def JudgeLogicSaid : Prop := judgeLogicRow.holds Tryz.pinned (OpenSpec.ofChange judgeLogicSpec)

/-- ITS FALSE NEIGHBOUR: 'it returns false'. Refute it at one input. -/
def judgeLogicWrong : ChangeSpec := { name := "judgeLogic", fn := fun _ => fun
  | [d1, d2, d3] => { results := [.lit (.bool false)], args := [d1, d2, d3] }
  | _ => none }
def JudgeLogicWrongFalsely : Prop := judgeLogicRow.holds Tryz.pinned (OpenSpec.ofChange judgeLogicWrong)

/-- 'telltalelaw20.JudgeHolds': WHATEVER THE INPUT: true; the input reads as it did. -/
def judgeHoldsSpec : ChangeSpec := { name := "judgeHolds", fn := fun _ => fun
  | [d1, d2, d3] => { results := [.lit (.bool true)], args := [d1, d2, d3] }
  | _ => none }
def judgeHoldsRow : OpenClaim := { program := "ytbanfalnbhcknaagreatdoor", sum := "8e55aa8e57ae77afe57e90f7354f5ec13ace650a8e68bbbd191699ef41dc0eb5", func := "telltale/telltalelaw20.JudgeHolds", spec := "judgeHolds", inPlace := ["internal/bytealg.IndexByteString", "math.Float64frombits", "internal/bytealg.IndexString", "internal/bytealg.CountString"], unfollowed := true, recurses := true, named := ["internal/bytealg.MaxLen", "unicode/utf8.first", "unicode/utf8.acceptRanges"], apart := false, laid := [("unicode/utf8.acceptRanges", laid_unicode_utf8_acceptRanges), ("unicode/utf8.first", laid_unicode_utf8_first)] }
def JudgeHoldsSaid : Prop := judgeHoldsRow.holds Tryz.pinned (OpenSpec.ofChange judgeHoldsSpec)

/-- ITS FALSE NEIGHBOUR: 'it returns false'. Refute it at one input. -/
def judgeHoldsWrong : ChangeSpec := { name := "judgeHolds", fn := fun _ => fun
  | [d1, d2, d3] => { results := [.lit (.bool false)], args := [d1, d2, d3] }
  | _ => none }
def JudgeHoldsWrongFalsely : Prop := judgeHoldsRow.holds Tryz.pinned (OpenSpec.ofChange judgeHoldsWrong)

/-- 'telltalelaw20.JudgeAhead': WHATEVER THE INPUT: true; the input reads as it did. -/
def judgeAheadSpec : ChangeSpec := { name := "judgeAhead", fn := fun _ => fun
  | [d1, d2, d3] => { results := [.lit (.bool true)], args := [d1, d2, d3] }
  | _ => none }
def judgeAheadRow : OpenClaim := { program := "ytbanfalnbhcknaagreatdoor", sum := "8e55aa8e57ae77afe57e90f7354f5ec13ace650a8e68bbbd191699ef41dc0eb5", func := "telltale/telltalelaw20.JudgeAhead", spec := "judgeAhead", inPlace := ["internal/bytealg.IndexByteString", "math.Float64frombits", "internal/bytealg.IndexString", "internal/bytealg.CountString"], unfollowed := true, recurses := true, named := ["internal/bytealg.MaxLen", "unicode/utf8.first", "unicode/utf8.acceptRanges"], apart := false, laid := [("unicode/utf8.acceptRanges", laid_unicode_utf8_acceptRanges), ("unicode/utf8.first", laid_unicode_utf8_first)] }
def JudgeAheadSaid : Prop := judgeAheadRow.holds Tryz.pinned (OpenSpec.ofChange judgeAheadSpec)

/-- ITS FALSE NEIGHBOUR: 'it returns false'. Refute it at one input. -/
def judgeAheadWrong : ChangeSpec := { name := "judgeAhead", fn := fun _ => fun
  | [d1, d2, d3] => { results := [.lit (.bool false)], args := [d1, d2, d3] }
  | _ => none }
def JudgeAheadWrongFalsely : Prop := judgeAheadRow.holds Tryz.pinned (OpenSpec.ofChange judgeAheadWrong)

/- THE SECOND FORM. 'bulk': how many values and letters a reading holds, each counted each time it is reached (what is shared counts as often as it is met; a slice's spare places count too). A statement '..UptoSaid' is the law's where the arguments, and the package variables that the reading takes, are together of bulk at most 1048576: NARROWER than '..Said'. Prove '..Said' where nothing that the law and all that it calls make is longer than what came in: it says more and counts as full. Else prove '..UptoSaid'. A law counts once. -/
mutual
def uptoBulk {H : Type} : DataW H → Nat
  | .lit (.string bytes) => bytes.length + 1
  | .lit _ => 1
  | .nil => 1
  | .ptr d => uptoBulk d + 1
  | .slice elems spare => uptoBulkAll elems + uptoBulkAll spare + 1
  | .agg parts => uptoBulkAll parts + 1
  | .iface _ d => uptoBulk d + 1
  | .map entries => uptoBulkEntries entries + 1
  | .held _ => 1
def uptoBulkAll {H : Type} : List (DataW H) → Nat
  | [] => 0
  | d :: r => uptoBulk d + uptoBulkAll r
def uptoBulkEntries {H : Type} : List (Lit × DataW H) → Nat
  | [] => 0
  | x :: r => uptoBulkEntry x + uptoBulkEntries r
def uptoBulkEntry {H : Type} : Lit × DataW H → Nat
  | (.string bytes, d) => bytes.length + uptoBulk d + 1
  | (_, d) => uptoBulk d + 1
 end
def uptoSmall : (H : Type) → List (DataW H) → Bool := fun _ ds => decide (uptoBulkAll ds ≤ 1048576)
def OpenSpec.upto (s : _root_.Go.ChangeSpec) : _root_.Go.OpenSpec := { _root_.Go.OpenSpec.ofChange s with cond := some uptoSmall }

/-- 'telltalelaw20.JudgeLogic', WHERE WHAT IT READS IS OF BULK AT MOST 1048576: true; the input reads as it did. -/
def judgeLogicUptoRow : OpenClaim := { program := "ytbanfalnbhcknaagreatdoor", sum := "8e55aa8e57ae77afe57e90f7354f5ec13ace650a8e68bbbd191699ef41dc0eb5", func := "telltale/telltalelaw20.JudgeLogic", spec := "judgeLogic", inPlace := ["internal/bytealg.IndexByteString", "math.Float64frombits", "internal/bytealg.IndexString", "internal/bytealg.CountString"], unfollowed := true, recurses := true, named := ["internal/bytealg.MaxLen", "unicode/utf8.first", "unicode/utf8.acceptRanges"], apart := false, laid := [("unicode/utf8.acceptRanges", laid_unicode_utf8_acceptRanges), ("unicode/utf8.first", laid_unicode_utf8_first)], narrowed := true }
def JudgeLogicUptoSaid : Prop := judgeLogicUptoRow.holds Tryz.pinned (OpenSpec.upto judgeLogicSpec)

/-- 'telltalelaw20.JudgeHolds', WHERE WHAT IT READS IS OF BULK AT MOST 1048576: true; the input reads as it did. -/
def judgeHoldsUptoRow : OpenClaim := { program := "ytbanfalnbhcknaagreatdoor", sum := "8e55aa8e57ae77afe57e90f7354f5ec13ace650a8e68bbbd191699ef41dc0eb5", func := "telltale/telltalelaw20.JudgeHolds", spec := "judgeHolds", inPlace := ["internal/bytealg.IndexByteString", "math.Float64frombits", "internal/bytealg.IndexString", "internal/bytealg.CountString"], unfollowed := true, recurses := true, named := ["internal/bytealg.MaxLen", "unicode/utf8.first", "unicode/utf8.acceptRanges"], apart := false, laid := [("unicode/utf8.acceptRanges", laid_unicode_utf8_acceptRanges), ("unicode/utf8.first", laid_unicode_utf8_first)], narrowed := true }
def JudgeHoldsUptoSaid : Prop := judgeHoldsUptoRow.holds Tryz.pinned (OpenSpec.upto judgeHoldsSpec)

/-- 'telltalelaw20.JudgeAhead', WHERE WHAT IT READS IS OF BULK AT MOST 1048576: true; the input reads as it did. -/
def judgeAheadUptoRow : OpenClaim := { program := "ytbanfalnbhcknaagreatdoor", sum := "8e55aa8e57ae77afe57e90f7354f5ec13ace650a8e68bbbd191699ef41dc0eb5", func := "telltale/telltalelaw20.JudgeAhead", spec := "judgeAhead", inPlace := ["internal/bytealg.IndexByteString", "math.Float64frombits", "internal/bytealg.IndexString", "internal/bytealg.CountString"], unfollowed := true, recurses := true, named := ["internal/bytealg.MaxLen", "unicode/utf8.first", "unicode/utf8.acceptRanges"], apart := false, laid := [("unicode/utf8.acceptRanges", laid_unicode_utf8_acceptRanges), ("unicode/utf8.first", laid_unicode_utf8_first)], narrowed := true }
def JudgeAheadUptoSaid : Prop := judgeAheadUptoRow.holds Tryz.pinned (OpenSpec.upto judgeAheadSpec)

end Rows
end Go.Proofs.YtbanfalnbhcknaaGreatDoor
