/-
  NARROWER THAN 'FOR EVERY INPUT', by the rows' own cells (each row's printed sentence says how): PredtextParses: laid · PredtextReads: laid · PredtextBack: laid · PredtextBrackets: laid.
  DERIVED. THE GIVEN ROWS OF THIS SEAT. 4 by the template 'for every input the law returns true; each argument reads behind the call as it read before'; 0 by the template 'total and deterministic' (their statements: YtfmibkkigkgecaaGreatDoorTotals.lean).
  GIVEN WITH THE SEED: the statements are not yours to turn. If you find one false, say at which input.
  Laid BY PROGRAM, IN A SANDBOX (cutbox-rows.mjs): the forced cells as the released guide's own fill.sh prints them over the translation ada2397946a7eeeb… (all of the seat's roots in one cut). By AI agents, Wed Nov 11 2026. No macro, syntax, notation, axiom, sorry.
-/
import Derived.Test.YtfmibkkigkgecaaGreatDoorChecked
import GoSem.Claim
import GoSem.ClaimJoined
import GoSem.ClaimMapViews
import Derived.JoinedTies
import Derived.KernelRfl
namespace Go.Proofs.YtfmibkkigkgecaaGreatDoor
/- THE CELL 'sum', in the pinned program and in every row, IS THE sha256 OF THE DUMP (.gsa) THAT YtfmibkkigkgecaaGreatDoorProg.lean LOADS. Nothing in Lean hashes anything: it is a label: what it is worth is what the hold of that sum in a sandbox is worth. -/
noncomputable def Tryz.pinned : Pinned := { name := "ytfmibkkigkgecaagreatdoor", sum := "ada2397946a7eeeb4d5e803aba1ac0ec07406a1ded2865ac4a88c16f325db2c6", checked := Tryz.checked }
namespace Rows
def none {H : Type} : Left H := { results := [], args := [] }

/- WHAT THE LISTED PACKAGE-LEVEL VARIABLES READ AS WHEN THE CALL BEGINS. Each datum BY PROGRAM (the guide's laid-datum.mjs) off the statement by which the dump's own 'gosem.cut.vars' lays the variable. In a bare row this is a premise. The card (YtfmibkkigkgecaaGreatDoorCards.lean) ties it to the program's text. -/
def laid_errors_errorType {H : Type} : DataW H := .iface "internal/reflectlite.rtype" (.agg [.ptr (.lit (.string [101, 114, 114, 111, 114]))])

/-- 'telltalelaw12.PredtextParses': WHATEVER THE INPUT: true; the input reads as it did. -/
def predtextParsesSpec : ChangeSpec := { name := "predtextParses", fn := fun _ => fun
  | [d1, d2, d3] => { results := [.lit (.bool true)], args := [d1, d2, d3] }
  | _ => none }
def predtextParsesRow : OpenClaim := { program := "ytfmibkkigkgecaagreatdoor", sum := "ada2397946a7eeeb4d5e803aba1ac0ec07406a1ded2865ac4a88c16f325db2c6", func := "telltale/telltalelaw12.PredtextParses", spec := "predtextParses", inPlace := ["internal/bytealg.IndexByteString", "math.Float64frombits", "internal/abi.NoEscape", "internal/reflectlite.ValueOf", "(internal/reflectlite.Value).Type", "(internal/reflectlite.Value).IsNil", "internal/reflectlite.TypeOf", "(internal/reflectlite.Value).Elem", "(internal/reflectlite.Value).Set"], unfollowed := true, recurses := true, named := ["errors.errorType"], apart := false, laid := [("errors.errorType", laid_errors_errorType)] }
def PredtextParsesSaid : Prop := predtextParsesRow.holds Tryz.pinned (OpenSpec.ofChange predtextParsesSpec)

/-- ITS FALSE NEIGHBOUR: 'it returns false'. Refute it at one input. -/
def predtextParsesWrong : ChangeSpec := { name := "predtextParses", fn := fun _ => fun
  | [d1, d2, d3] => { results := [.lit (.bool false)], args := [d1, d2, d3] }
  | _ => none }
def PredtextParsesWrongFalsely : Prop := predtextParsesRow.holds Tryz.pinned (OpenSpec.ofChange predtextParsesWrong)

/-- 'telltalelaw12.PredtextReads': WHATEVER THE INPUT: true; the input reads as it did. -/
def predtextReadsSpec : ChangeSpec := { name := "predtextReads", fn := fun _ => fun
  | [d] => { results := [.lit (.bool true)], args := [d] }
  | _ => none }
def predtextReadsRow : OpenClaim := { program := "ytfmibkkigkgecaagreatdoor", sum := "ada2397946a7eeeb4d5e803aba1ac0ec07406a1ded2865ac4a88c16f325db2c6", func := "telltale/telltalelaw12.PredtextReads", spec := "predtextReads", inPlace := ["internal/bytealg.IndexByteString", "math.Float64frombits", "internal/abi.NoEscape", "internal/reflectlite.ValueOf", "(internal/reflectlite.Value).Type", "(internal/reflectlite.Value).IsNil", "internal/reflectlite.TypeOf", "(internal/reflectlite.Value).Elem", "(internal/reflectlite.Value).Set"], unfollowed := true, recurses := true, named := ["errors.errorType"], apart := false, laid := [("errors.errorType", laid_errors_errorType)] }
def PredtextReadsSaid : Prop := predtextReadsRow.holds Tryz.pinned (OpenSpec.ofChange predtextReadsSpec)

/-- ITS FALSE NEIGHBOUR: 'it returns false'. Refute it at one input. -/
def predtextReadsWrong : ChangeSpec := { name := "predtextReads", fn := fun _ => fun
  | [d] => { results := [.lit (.bool false)], args := [d] }
  | _ => none }
def PredtextReadsWrongFalsely : Prop := predtextReadsRow.holds Tryz.pinned (OpenSpec.ofChange predtextReadsWrong)

/-- 'telltalelaw12.PredtextBack': WHATEVER THE INPUT: true; the input reads as it did. -/
def predtextBackSpec : ChangeSpec := { name := "predtextBack", fn := fun _ => fun
  | [d1, d2] => { results := [.lit (.bool true)], args := [d1, d2] }
  | _ => none }
def predtextBackRow : OpenClaim := { program := "ytfmibkkigkgecaagreatdoor", sum := "ada2397946a7eeeb4d5e803aba1ac0ec07406a1ded2865ac4a88c16f325db2c6", func := "telltale/telltalelaw12.PredtextBack", spec := "predtextBack", inPlace := ["internal/bytealg.IndexByteString", "math.Float64frombits", "internal/abi.NoEscape", "internal/reflectlite.ValueOf", "(internal/reflectlite.Value).Type", "(internal/reflectlite.Value).IsNil", "internal/reflectlite.TypeOf", "(internal/reflectlite.Value).Elem", "(internal/reflectlite.Value).Set"], unfollowed := true, recurses := true, named := ["errors.errorType"], apart := false, laid := [("errors.errorType", laid_errors_errorType)] }
def PredtextBackSaid : Prop := predtextBackRow.holds Tryz.pinned (OpenSpec.ofChange predtextBackSpec)

/-- ITS FALSE NEIGHBOUR: 'it returns false'. Refute it at one input. -/
def predtextBackWrong : ChangeSpec := { name := "predtextBack", fn := fun _ => fun
  | [d1, d2] => { results := [.lit (.bool false)], args := [d1, d2] }
  | _ => none }
def PredtextBackWrongFalsely : Prop := predtextBackRow.holds Tryz.pinned (OpenSpec.ofChange predtextBackWrong)

/-- 'telltalelaw12.PredtextBrackets': WHATEVER THE INPUT: true; the input reads as it did. -/
def predtextBracketsSpec : ChangeSpec := { name := "predtextBrackets", fn := fun _ => fun
  | [d1, d2] => { results := [.lit (.bool true)], args := [d1, d2] }
  | _ => none }
def predtextBracketsRow : OpenClaim := { program := "ytfmibkkigkgecaagreatdoor", sum := "ada2397946a7eeeb4d5e803aba1ac0ec07406a1ded2865ac4a88c16f325db2c6", func := "telltale/telltalelaw12.PredtextBrackets", spec := "predtextBrackets", inPlace := ["internal/bytealg.IndexByteString", "math.Float64frombits", "internal/abi.NoEscape", "internal/reflectlite.ValueOf", "(internal/reflectlite.Value).Type", "(internal/reflectlite.Value).IsNil", "internal/reflectlite.TypeOf", "(internal/reflectlite.Value).Elem", "(internal/reflectlite.Value).Set"], unfollowed := true, recurses := true, named := ["errors.errorType"], apart := false, laid := [("errors.errorType", laid_errors_errorType)] }
def PredtextBracketsSaid : Prop := predtextBracketsRow.holds Tryz.pinned (OpenSpec.ofChange predtextBracketsSpec)

/-- ITS FALSE NEIGHBOUR: 'it returns false'. Refute it at one input. -/
def predtextBracketsWrong : ChangeSpec := { name := "predtextBrackets", fn := fun _ => fun
  | [d1, d2] => { results := [.lit (.bool false)], args := [d1, d2] }
  | _ => none }
def PredtextBracketsWrongFalsely : Prop := predtextBracketsRow.holds Tryz.pinned (OpenSpec.ofChange predtextBracketsWrong)

/- THE SECOND FORM. 'bulk': how many values and letters a reading holds, each counted each time it is reached (what is shared counts as often as it is met; a slice's spare places count too). A statement '..UptoSaid' is the law's where the arguments, and the package variables that the reading takes, are together of bulk at most 1048576: NARROWER than '..Said'. Prove '..Said' where nothing that the law and all that it calls make is longer than what came in: it says more and counts as full. Else prove '..UptoSaid'. A law counts once. -/
mutual
def uptoBulk {H : Type} : DataW H → Nat
  | .lit (.string bytes) => bytes.length + 1
  | .lit _ => 1
  | .nil => 1
  | .ptr d => uptoBulk d + 1
  | .slice elems spare => uptoBulkAll elems + uptoBulkAll spare + 1
  | .agg parts => uptoBulkAll parts + 1
  | .iface _ d => uptoBulk d + 1
  | .map entries => uptoBulkEntries entries + 1
  | .held _ => 1
def uptoBulkAll {H : Type} : List (DataW H) → Nat
  | [] => 0
  | d :: r => uptoBulk d + uptoBulkAll r
def uptoBulkEntries {H : Type} : List (Lit × DataW H) → Nat
  | [] => 0
  | x :: r => uptoBulkEntry x + uptoBulkEntries r
def uptoBulkEntry {H : Type} : Lit × DataW H → Nat
  | (.string bytes, d) => bytes.length + uptoBulk d + 1
  | (_, d) => uptoBulk d + 1
 end
def uptoSmall : (H : Type) → List (DataW H) → Bool := fun _ ds => decide (uptoBulkAll ds ≤ 1048576)
def OpenSpec.upto (s : _root_.Go.ChangeSpec) : _root_.Go.OpenSpec := { _root_.Go.OpenSpec.ofChange s with cond := some uptoSmall }

/-- 'telltalelaw12.PredtextParses', WHERE WHAT IT READS IS OF BULK AT MOST 1048576: true; the input reads as it did. -/
def predtextParsesUptoRow : OpenClaim := { program := "ytfmibkkigkgecaagreatdoor", sum := "ada2397946a7eeeb4d5e803aba1ac0ec07406a1ded2865ac4a88c16f325db2c6", func := "telltale/telltalelaw12.PredtextParses", spec := "predtextParses", inPlace := ["internal/bytealg.IndexByteString", "math.Float64frombits", "internal/abi.NoEscape", "internal/reflectlite.ValueOf", "(internal/reflectlite.Value).Type", "(internal/reflectlite.Value).IsNil", "internal/reflectlite.TypeOf", "(internal/reflectlite.Value).Elem", "(internal/reflectlite.Value).Set"], unfollowed := true, recurses := true, named := ["errors.errorType"], apart := false, laid := [("errors.errorType", laid_errors_errorType)], narrowed := true }
def PredtextParsesUptoSaid : Prop := predtextParsesUptoRow.holds Tryz.pinned (OpenSpec.upto predtextParsesSpec)

/-- 'telltalelaw12.PredtextReads', WHERE WHAT IT READS IS OF BULK AT MOST 1048576: true; the input reads as it did. -/
def predtextReadsUptoRow : OpenClaim := { program := "ytfmibkkigkgecaagreatdoor", sum := "ada2397946a7eeeb4d5e803aba1ac0ec07406a1ded2865ac4a88c16f325db2c6", func := "telltale/telltalelaw12.PredtextReads", spec := "predtextReads", inPlace := ["internal/bytealg.IndexByteString", "math.Float64frombits", "internal/abi.NoEscape", "internal/reflectlite.ValueOf", "(internal/reflectlite.Value).Type", "(internal/reflectlite.Value).IsNil", "internal/reflectlite.TypeOf", "(internal/reflectlite.Value).Elem", "(internal/reflectlite.Value).Set"], unfollowed := true, recurses := true, named := ["errors.errorType"], apart := false, laid := [("errors.errorType", laid_errors_errorType)], narrowed := true }
def PredtextReadsUptoSaid : Prop := predtextReadsUptoRow.holds Tryz.pinned (OpenSpec.upto predtextReadsSpec)

/-- 'telltalelaw12.PredtextBack', WHERE WHAT IT READS IS OF BULK AT MOST 1048576: true; the input reads as it did. -/
def predtextBackUptoRow : OpenClaim := { program := "ytfmibkkigkgecaagreatdoor", sum := "ada2397946a7eeeb4d5e803aba1ac0ec07406a1ded2865ac4a88c16f325db2c6", func := "telltale/telltalelaw12.PredtextBack", spec := "predtextBack", inPlace := ["internal/bytealg.IndexByteString", "math.Float64frombits", "internal/abi.NoEscape", "internal/reflectlite.ValueOf", "(internal/reflectlite.Value).Type", "(internal/reflectlite.Value).IsNil", "internal/reflectlite.TypeOf", "(internal/reflectlite.Value).Elem", "(internal/reflectlite.Value).Set"], unfollowed := true, recurses := true, named := ["errors.errorType"], apart := false, laid := [("errors.errorType", laid_errors_errorType)], narrowed := true }
def PredtextBackUptoSaid : Prop := predtextBackUptoRow.holds Tryz.pinned (OpenSpec.upto predtextBackSpec)

/-- 'telltalelaw12.PredtextBrackets', WHERE WHAT IT READS IS OF BULK AT MOST 1048576: true; the input reads as it did. -/
def predtextBracketsUptoRow : OpenClaim := { program := "ytfmibkkigkgecaagreatdoor", sum := "ada2397946a7eeeb4d5e803aba1ac0ec07406a1ded2865ac4a88c16f325db2c6", func := "telltale/telltalelaw12.PredtextBrackets", spec := "predtextBrackets", inPlace := ["internal/bytealg.IndexByteString", "math.Float64frombits", "internal/abi.NoEscape", "internal/reflectlite.ValueOf", "(internal/reflectlite.Value).Type", "(internal/reflectlite.Value).IsNil", "internal/reflectlite.TypeOf", "(internal/reflectlite.Value).Elem", "(internal/reflectlite.Value).Set"], unfollowed := true, recurses := true, named := ["errors.errorType"], apart := false, laid := [("errors.errorType", laid_errors_errorType)], narrowed := true }
def PredtextBracketsUptoSaid : Prop := predtextBracketsUptoRow.holds Tryz.pinned (OpenSpec.upto predtextBracketsSpec)

end Rows
end Go.Proofs.YtfmibkkigkgecaaGreatDoor
