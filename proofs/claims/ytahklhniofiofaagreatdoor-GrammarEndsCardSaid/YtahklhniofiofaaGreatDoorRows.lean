/-
  NARROWER THAN 'FOR EVERY INPUT', by the rows' own cells (each row's printed sentence says how): GrammarParses: laid · GrammarDeep: laid · GrammarBack: laid · GrammarEnds: laid · GrammarBrackets: laid.
  DERIVED. THE GIVEN ROWS OF THIS SEAT. 5 by the template 'for every input the law returns true; each argument reads behind the call as it read before'; 0 by the template 'total and deterministic' (their statements: YtahklhniofiofaaGreatDoorTotals.lean).
  GIVEN WITH THE SEED: the statements are not yours to turn. If you find one false, say at which input.
  Laid BY PROGRAM, IN A SANDBOX (cutbox-rows.mjs): the forced cells as the released guide's own fill.sh prints them over the translation c929908b2f2ca3fc… (all of the seat's roots in one cut). By AI agents, Wed Nov 11 2026. No macro, syntax, notation, axiom, sorry.
-/
import Derived.Test.YtahklhniofiofaaGreatDoorChecked
import GoSem.Claim
import GoSem.ClaimJoined
import GoSem.ClaimMapViews
import Derived.JoinedTies
import Derived.KernelRfl
namespace Go.Proofs.YtahklhniofiofaaGreatDoor
/- THE CELL 'sum', in the pinned program and in every row, IS THE sha256 OF THE DUMP (.gsa) THAT YtahklhniofiofaaGreatDoorProg.lean LOADS. Nothing in Lean hashes anything: it is a label: what it is worth is what the hold of that sum in a sandbox is worth. -/
noncomputable def Tryz.pinned : Pinned := { name := "ytahklhniofiofaagreatdoor", sum := "c929908b2f2ca3fc3dd16b986cb65e1b9f9604e9eebd95bb49db7a26a048d740", checked := Tryz.checked }
namespace Rows
def none {H : Type} : Left H := { results := [], args := [] }

/- WHAT THE LISTED PACKAGE-LEVEL VARIABLES READ AS WHEN THE CALL BEGINS. Each datum BY PROGRAM (the guide's laid-datum.mjs) off the statement by which the dump's own 'gosem.cut.vars' lays the variable. In a bare row this is a premise. The card (YtahklhniofiofaaGreatDoorCards.lean) ties it to the program's text. -/
def laid_errors_errorType {H : Type} : DataW H := .iface "internal/reflectlite.rtype" (.agg [.ptr (.lit (.string [101, 114, 114, 111, 114]))])

/-- 'telltalelaw14.GrammarParses': WHATEVER THE INPUT: true; the input reads as it did. -/
def grammarParsesSpec : ChangeSpec := { name := "grammarParses", fn := fun _ => fun
  | [d] => { results := [.lit (.bool true)], args := [d] }
  | _ => none }
def grammarParsesRow : OpenClaim := { program := "ytahklhniofiofaagreatdoor", sum := "c929908b2f2ca3fc3dd16b986cb65e1b9f9604e9eebd95bb49db7a26a048d740", func := "telltale/telltalelaw14.GrammarParses", spec := "grammarParses", inPlace := ["internal/bytealg.IndexByteString", "math.Float64frombits", "internal/abi.NoEscape", "internal/reflectlite.ValueOf", "(internal/reflectlite.Value).Type", "(internal/reflectlite.Value).IsNil", "internal/reflectlite.TypeOf", "(internal/reflectlite.Value).Elem", "(internal/reflectlite.Value).Set"], unfollowed := true, recurses := true, named := ["errors.errorType"], apart := false, laid := [("errors.errorType", laid_errors_errorType)] }
def GrammarParsesSaid : Prop := grammarParsesRow.holds Tryz.pinned (OpenSpec.ofChange grammarParsesSpec)

/-- ITS FALSE NEIGHBOUR: 'it returns false'. Refute it at one input. -/
def grammarParsesWrong : ChangeSpec := { name := "grammarParses", fn := fun _ => fun
  | [d] => { results := [.lit (.bool false)], args := [d] }
  | _ => none }
def GrammarParsesWrongFalsely : Prop := grammarParsesRow.holds Tryz.pinned (OpenSpec.ofChange grammarParsesWrong)

/-- 'telltalelaw14.GrammarDeep': WHATEVER THE INPUT: true; the input reads as it did. -/
def grammarDeepSpec : ChangeSpec := { name := "grammarDeep", fn := fun _ => fun
  | [d1, d2] => { results := [.lit (.bool true)], args := [d1, d2] }
  | _ => none }
def grammarDeepRow : OpenClaim := { program := "ytahklhniofiofaagreatdoor", sum := "c929908b2f2ca3fc3dd16b986cb65e1b9f9604e9eebd95bb49db7a26a048d740", func := "telltale/telltalelaw14.GrammarDeep", spec := "grammarDeep", inPlace := ["internal/bytealg.IndexByteString", "math.Float64frombits", "internal/reflectlite.ValueOf", "(internal/reflectlite.Value).Type", "(internal/reflectlite.Value).IsNil", "internal/reflectlite.TypeOf", "(internal/reflectlite.Value).Elem", "(internal/reflectlite.Value).Set", "internal/abi.NoEscape"], unfollowed := true, recurses := true, named := ["errors.errorType"], apart := false, laid := [("errors.errorType", laid_errors_errorType)] }
def GrammarDeepSaid : Prop := grammarDeepRow.holds Tryz.pinned (OpenSpec.ofChange grammarDeepSpec)

/-- ITS FALSE NEIGHBOUR: 'it returns false'. Refute it at one input. -/
def grammarDeepWrong : ChangeSpec := { name := "grammarDeep", fn := fun _ => fun
  | [d1, d2] => { results := [.lit (.bool false)], args := [d1, d2] }
  | _ => none }
def GrammarDeepWrongFalsely : Prop := grammarDeepRow.holds Tryz.pinned (OpenSpec.ofChange grammarDeepWrong)

/-- 'telltalelaw14.GrammarBack': WHATEVER THE INPUT: true; the input reads as it did. -/
def grammarBackSpec : ChangeSpec := { name := "grammarBack", fn := fun _ => fun
  | [d] => { results := [.lit (.bool true)], args := [d] }
  | _ => none }
def grammarBackRow : OpenClaim := { program := "ytahklhniofiofaagreatdoor", sum := "c929908b2f2ca3fc3dd16b986cb65e1b9f9604e9eebd95bb49db7a26a048d740", func := "telltale/telltalelaw14.GrammarBack", spec := "grammarBack", inPlace := ["internal/bytealg.IndexByteString", "math.Float64frombits", "internal/abi.NoEscape", "internal/reflectlite.ValueOf", "(internal/reflectlite.Value).Type", "(internal/reflectlite.Value).IsNil", "internal/reflectlite.TypeOf", "(internal/reflectlite.Value).Elem", "(internal/reflectlite.Value).Set"], unfollowed := true, recurses := true, named := ["errors.errorType"], apart := false, laid := [("errors.errorType", laid_errors_errorType)] }
def GrammarBackSaid : Prop := grammarBackRow.holds Tryz.pinned (OpenSpec.ofChange grammarBackSpec)

/-- ITS FALSE NEIGHBOUR: 'it returns false'. Refute it at one input. -/
def grammarBackWrong : ChangeSpec := { name := "grammarBack", fn := fun _ => fun
  | [d] => { results := [.lit (.bool false)], args := [d] }
  | _ => none }
def GrammarBackWrongFalsely : Prop := grammarBackRow.holds Tryz.pinned (OpenSpec.ofChange grammarBackWrong)

/-- 'telltalelaw14.GrammarEnds': WHATEVER THE INPUT: true; the input reads as it did. -/
def grammarEndsSpec : ChangeSpec := { name := "grammarEnds", fn := fun _ => fun
  | [d1, d2] => { results := [.lit (.bool true)], args := [d1, d2] }
  | _ => none }
def grammarEndsRow : OpenClaim := { program := "ytahklhniofiofaagreatdoor", sum := "c929908b2f2ca3fc3dd16b986cb65e1b9f9604e9eebd95bb49db7a26a048d740", func := "telltale/telltalelaw14.GrammarEnds", spec := "grammarEnds", inPlace := ["internal/bytealg.IndexByteString", "math.Float64frombits", "internal/abi.NoEscape", "internal/reflectlite.ValueOf", "(internal/reflectlite.Value).Type", "(internal/reflectlite.Value).IsNil", "internal/reflectlite.TypeOf", "(internal/reflectlite.Value).Elem", "(internal/reflectlite.Value).Set"], unfollowed := true, recurses := true, named := ["errors.errorType"], apart := false, laid := [("errors.errorType", laid_errors_errorType)] }
def GrammarEndsSaid : Prop := grammarEndsRow.holds Tryz.pinned (OpenSpec.ofChange grammarEndsSpec)

/-- ITS FALSE NEIGHBOUR: 'it returns false'. Refute it at one input. -/
def grammarEndsWrong : ChangeSpec := { name := "grammarEnds", fn := fun _ => fun
  | [d1, d2] => { results := [.lit (.bool false)], args := [d1, d2] }
  | _ => none }
def GrammarEndsWrongFalsely : Prop := grammarEndsRow.holds Tryz.pinned (OpenSpec.ofChange grammarEndsWrong)

/-- 'telltalelaw14.GrammarBrackets': WHATEVER THE INPUT: true; the input reads as it did. -/
def grammarBracketsSpec : ChangeSpec := { name := "grammarBrackets", fn := fun _ => fun
  | [d1, d2] => { results := [.lit (.bool true)], args := [d1, d2] }
  | _ => none }
def grammarBracketsRow : OpenClaim := { program := "ytahklhniofiofaagreatdoor", sum := "c929908b2f2ca3fc3dd16b986cb65e1b9f9604e9eebd95bb49db7a26a048d740", func := "telltale/telltalelaw14.GrammarBrackets", spec := "grammarBrackets", inPlace := ["internal/bytealg.IndexByteString", "math.Float64frombits", "internal/abi.NoEscape", "internal/reflectlite.ValueOf", "(internal/reflectlite.Value).Type", "(internal/reflectlite.Value).IsNil", "internal/reflectlite.TypeOf", "(internal/reflectlite.Value).Elem", "(internal/reflectlite.Value).Set"], unfollowed := true, recurses := true, named := ["errors.errorType"], apart := false, laid := [("errors.errorType", laid_errors_errorType)] }
def GrammarBracketsSaid : Prop := grammarBracketsRow.holds Tryz.pinned (OpenSpec.ofChange grammarBracketsSpec)

/-- ITS FALSE NEIGHBOUR: 'it returns false'. Refute it at one input. -/
def grammarBracketsWrong : ChangeSpec := { name := "grammarBrackets", fn := fun _ => fun
  | [d1, d2] => { results := [.lit (.bool false)], args := [d1, d2] }
  | _ => none }
def GrammarBracketsWrongFalsely : Prop := grammarBracketsRow.holds Tryz.pinned (OpenSpec.ofChange grammarBracketsWrong)

/- THE SECOND FORM. 'bulk': how many values and letters a reading holds, each counted each time it is reached (what is shared counts as often as it is met; a slice's spare places count too). A statement '..UptoSaid' is the law's where the arguments, and the package variables that the reading takes, are together of bulk at most 1048576: NARROWER than '..Said'. Prove '..Said' where nothing that the law and all that it calls make is longer than what came in: it says more and counts as full. Else prove '..UptoSaid'. A law counts once. -/
mutual
def uptoBulk {H : Type} : DataW H → Nat
  | .lit (.string bytes) => bytes.length + 1
  | .lit _ => 1
  | .nil => 1
  | .ptr d => uptoBulk d + 1
  | .slice elems spare => uptoBulkAll elems + uptoBulkAll spare + 1
  | .agg parts => uptoBulkAll parts + 1
  | .iface _ d => uptoBulk d + 1
  | .map entries => uptoBulkEntries entries + 1
  | .held _ => 1
def uptoBulkAll {H : Type} : List (DataW H) → Nat
  | [] => 0
  | d :: r => uptoBulk d + uptoBulkAll r
def uptoBulkEntries {H : Type} : List (Lit × DataW H) → Nat
  | [] => 0
  | x :: r => uptoBulkEntry x + uptoBulkEntries r
def uptoBulkEntry {H : Type} : Lit × DataW H → Nat
  | (.string bytes, d) => bytes.length + uptoBulk d + 1
  | (_, d) => uptoBulk d + 1
 end
def uptoSmall : (H : Type) → List (DataW H) → Bool := fun _ ds => decide (uptoBulkAll ds ≤ 1048576)
def OpenSpec.upto (s : _root_.Go.ChangeSpec) : _root_.Go.OpenSpec := { _root_.Go.OpenSpec.ofChange s with cond := some uptoSmall }

/-- 'telltalelaw14.GrammarParses', WHERE WHAT IT READS IS OF BULK AT MOST 1048576: true; the input reads as it did. -/
def grammarParsesUptoRow : OpenClaim := { program := "ytahklhniofiofaagreatdoor", sum := "c929908b2f2ca3fc3dd16b986cb65e1b9f9604e9eebd95bb49db7a26a048d740", func := "telltale/telltalelaw14.GrammarParses", spec := "grammarParses", inPlace := ["internal/bytealg.IndexByteString", "math.Float64frombits", "internal/abi.NoEscape", "internal/reflectlite.ValueOf", "(internal/reflectlite.Value).Type", "(internal/reflectlite.Value).IsNil", "internal/reflectlite.TypeOf", "(internal/reflectlite.Value).Elem", "(internal/reflectlite.Value).Set"], unfollowed := true, recurses := true, named := ["errors.errorType"], apart := false, laid := [("errors.errorType", laid_errors_errorType)], narrowed := true }
def GrammarParsesUptoSaid : Prop := grammarParsesUptoRow.holds Tryz.pinned (OpenSpec.upto grammarParsesSpec)

/-- 'telltalelaw14.GrammarDeep', WHERE WHAT IT READS IS OF BULK AT MOST 1048576: true; the input reads as it did. -/
def grammarDeepUptoRow : OpenClaim := { program := "ytahklhniofiofaagreatdoor", sum := "c929908b2f2ca3fc3dd16b986cb65e1b9f9604e9eebd95bb49db7a26a048d740", func := "telltale/telltalelaw14.GrammarDeep", spec := "grammarDeep", inPlace := ["internal/bytealg.IndexByteString", "math.Float64frombits", "internal/reflectlite.ValueOf", "(internal/reflectlite.Value).Type", "(internal/reflectlite.Value).IsNil", "internal/reflectlite.TypeOf", "(internal/reflectlite.Value).Elem", "(internal/reflectlite.Value).Set", "internal/abi.NoEscape"], unfollowed := true, recurses := true, named := ["errors.errorType"], apart := false, laid := [("errors.errorType", laid_errors_errorType)], narrowed := true }
def GrammarDeepUptoSaid : Prop := grammarDeepUptoRow.holds Tryz.pinned (OpenSpec.upto grammarDeepSpec)

/-- 'telltalelaw14.GrammarBack', WHERE WHAT IT READS IS OF BULK AT MOST 1048576: true; the input reads as it did. -/
def grammarBackUptoRow : OpenClaim := { program := "ytahklhniofiofaagreatdoor", sum := "c929908b2f2ca3fc3dd16b986cb65e1b9f9604e9eebd95bb49db7a26a048d740", func := "telltale/telltalelaw14.GrammarBack", spec := "grammarBack", inPlace := ["internal/bytealg.IndexByteString", "math.Float64frombits", "internal/abi.NoEscape", "internal/reflectlite.ValueOf", "(internal/reflectlite.Value).Type", "(internal/reflectlite.Value).IsNil", "internal/reflectlite.TypeOf", "(internal/reflectlite.Value).Elem", "(internal/reflectlite.Value).Set"], unfollowed := true, recurses := true, named := ["errors.errorType"], apart := false, laid := [("errors.errorType", laid_errors_errorType)], narrowed := true }
def GrammarBackUptoSaid : Prop := grammarBackUptoRow.holds Tryz.pinned (OpenSpec.upto grammarBackSpec)

/-- 'telltalelaw14.GrammarEnds', WHERE WHAT IT READS IS OF BULK AT MOST 1048576: true; the input reads as it did. -/
def grammarEndsUptoRow : OpenClaim := { program := "ytahklhniofiofaagreatdoor", sum := "c929908b2f2ca3fc3dd16b986cb65e1b9f9604e9eebd95bb49db7a26a048d740", func := "telltale/telltalelaw14.GrammarEnds", spec := "grammarEnds", inPlace := ["internal/bytealg.IndexByteString", "math.Float64frombits", "internal/abi.NoEscape", "internal/reflectlite.ValueOf", "(internal/reflectlite.Value).Type", "(internal/reflectlite.Value).IsNil", "internal/reflectlite.TypeOf", "(internal/reflectlite.Value).Elem", "(internal/reflectlite.Value).Set"], unfollowed := true, recurses := true, named := ["errors.errorType"], apart := false, laid := [("errors.errorType", laid_errors_errorType)], narrowed := true }
def GrammarEndsUptoSaid : Prop := grammarEndsUptoRow.holds Tryz.pinned (OpenSpec.upto grammarEndsSpec)

/-- 'telltalelaw14.GrammarBrackets', WHERE WHAT IT READS IS OF BULK AT MOST 1048576: true; the input reads as it did. -/
def grammarBracketsUptoRow : OpenClaim := { program := "ytahklhniofiofaagreatdoor", sum := "c929908b2f2ca3fc3dd16b986cb65e1b9f9604e9eebd95bb49db7a26a048d740", func := "telltale/telltalelaw14.GrammarBrackets", spec := "grammarBrackets", inPlace := ["internal/bytealg.IndexByteString", "math.Float64frombits", "internal/abi.NoEscape", "internal/reflectlite.ValueOf", "(internal/reflectlite.Value).Type", "(internal/reflectlite.Value).IsNil", "internal/reflectlite.TypeOf", "(internal/reflectlite.Value).Elem", "(internal/reflectlite.Value).Set"], unfollowed := true, recurses := true, named := ["errors.errorType"], apart := false, laid := [("errors.errorType", laid_errors_errorType)], narrowed := true }
def GrammarBracketsUptoSaid : Prop := grammarBracketsUptoRow.holds Tryz.pinned (OpenSpec.upto grammarBracketsSpec)

end Rows
end Go.Proofs.YtahklhniofiofaaGreatDoor
