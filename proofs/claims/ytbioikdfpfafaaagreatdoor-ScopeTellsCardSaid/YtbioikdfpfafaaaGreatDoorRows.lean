/-
  NARROWER THAN 'FOR EVERY INPUT', by the rows' own cells (each row's printed sentence says how): ScopeTells: laid · ScopeWalks: laid · ScopeSure: laid · ScopeRight: laid.
  DERIVED. THE GIVEN ROWS OF THIS SEAT. 4 by the template 'for every input the law returns true; each argument reads behind the call as it read before'; 0 by the template 'total and deterministic' (their statements: YtbioikdfpfafaaaGreatDoorTotals.lean).
  GIVEN WITH THE SEED: the statements are not yours to turn. If you find one false, say at which input.
  Laid BY PROGRAM, IN A SANDBOX (cutbox-rows.mjs): the forced cells as the released guide's own fill.sh prints them over the translation 4d3d741e5fb6a878… (all of the seat's roots in one cut). By AI agents, Wed Nov 11 2026. No macro, syntax, notation, axiom, sorry.
-/
import Derived.Test.YtbioikdfpfafaaaGreatDoorChecked
import GoSem.PinnedTables
import GoSem.Claim
import GoSem.ClaimJoined
import GoSem.ClaimMapViews
import Derived.JoinedTies
import Derived.KernelRfl
namespace Go.Proofs.YtbioikdfpfafaaaGreatDoor
/- THE CELL 'sum', in the pinned program and in every row, IS THE sha256 OF THE DUMP (.gsa) THAT YtbioikdfpfafaaaGreatDoorProg.lean LOADS. Nothing in Lean hashes anything: it is a label: what it is worth is what the hold of that sum in a sandbox is worth. -/
noncomputable def Tryz.pinned : Pinned := { name := "ytbioikdfpfafaaagreatdoor", sum := "4d3d741e5fb6a878df52ed56238818954bffd394a2e9953afd18367e09a87be2", checked := Tryz.checked }
namespace Rows
def none {H : Type} : Left H := { results := [], args := [] }

/- WHAT THE LISTED PACKAGE-LEVEL VARIABLES READ AS WHEN THE CALL BEGINS. Each datum BY PROGRAM (the guide's laid-datum.mjs) off the statement by which the dump's own 'gosem.cut.vars' lays the variable. In a bare row this is a premise. The card (YtbioikdfpfafaaaGreatDoorCards.lean) ties it to the program's text. -/
def laid_unicode_utf8_acceptRanges {H : Type} : DataW H := .agg [.agg [.lit (.int .u8 128), .lit (.int .u8 191)], .agg [.lit (.int .u8 160), .lit (.int .u8 191)], .agg [.lit (.int .u8 128), .lit (.int .u8 159)], .agg [.lit (.int .u8 144), .lit (.int .u8 191)], .agg [.lit (.int .u8 128), .lit (.int .u8 143)], .agg [.lit (.int .u8 0), .lit (.int .u8 0)], .agg [.lit (.int .u8 0), .lit (.int .u8 0)], .agg [.lit (.int .u8 0), .lit (.int .u8 0)], .agg [.lit (.int .u8 0), .lit (.int .u8 0)], .agg [.lit (.int .u8 0), .lit (.int .u8 0)], .agg [.lit (.int .u8 0), .lit (.int .u8 0)], .agg [.lit (.int .u8 0), .lit (.int .u8 0)], .agg [.lit (.int .u8 0), .lit (.int .u8 0)], .agg [.lit (.int .u8 0), .lit (.int .u8 0)], .agg [.lit (.int .u8 0), .lit (.int .u8 0)], .agg [.lit (.int .u8 0), .lit (.int .u8 0)]]
/-- One of Go's own tables, pinned by name: the form's constant. -/
def laid_unicode_utf8_first : DataW Unit := Go.Pinned.utf8First

/-- 'telltalelaw15.ScopeTells': WHATEVER THE INPUT: true; the input reads as it did. -/
def scopeTellsSpec : ChangeSpec := { name := "scopeTells", fn := fun _ => fun
  | [d1, d2, d3] => { results := [.lit (.bool true)], args := [d1, d2, d3] }
  | _ => none }
def scopeTellsRow : OpenClaim := { program := "ytbioikdfpfafaaagreatdoor", sum := "4d3d741e5fb6a878df52ed56238818954bffd394a2e9953afd18367e09a87be2", func := "telltale/telltalelaw15.ScopeTells", spec := "scopeTells", inPlace := ["internal/bytealg.IndexByteString", "math.Float64frombits", "internal/bytealg.IndexString", "internal/bytealg.CountString"], unfollowed := true, recurses := true, named := ["internal/bytealg.MaxLen", "unicode/utf8.first", "unicode/utf8.acceptRanges"], apart := false, laid := [("unicode/utf8.acceptRanges", laid_unicode_utf8_acceptRanges), ("unicode/utf8.first", laid_unicode_utf8_first)] }
def ScopeTellsSaid : Prop := scopeTellsRow.holds Tryz.pinned (OpenSpec.ofChange scopeTellsSpec)

/-- ITS FALSE NEIGHBOUR: 'it returns false'. Refute it at one input. -/
def scopeTellsWrong : ChangeSpec := { name := "scopeTells", fn := fun _ => fun
  | [d1, d2, d3] => { results := [.lit (.bool false)], args := [d1, d2, d3] }
  | _ => none }
def ScopeTellsWrongFalsely : Prop := scopeTellsRow.holds Tryz.pinned (OpenSpec.ofChange scopeTellsWrong)

/-- 'telltalelaw15.ScopeWalks': WHATEVER THE INPUT: true; the input reads as it did. -/
def scopeWalksSpec : ChangeSpec := { name := "scopeWalks", fn := fun _ => fun
  | [d1, d2] => { results := [.lit (.bool true)], args := [d1, d2] }
  | _ => none }
def scopeWalksRow : OpenClaim := { program := "ytbioikdfpfafaaagreatdoor", sum := "4d3d741e5fb6a878df52ed56238818954bffd394a2e9953afd18367e09a87be2", func := "telltale/telltalelaw15.ScopeWalks", spec := "scopeWalks", inPlace := ["internal/bytealg.IndexByteString", "math.Float64frombits", "internal/bytealg.IndexString", "internal/bytealg.CountString"], unfollowed := true, recurses := true, named := ["internal/bytealg.MaxLen", "unicode/utf8.first", "unicode/utf8.acceptRanges"], apart := false, laid := [("unicode/utf8.acceptRanges", laid_unicode_utf8_acceptRanges), ("unicode/utf8.first", laid_unicode_utf8_first)] }
def ScopeWalksSaid : Prop := scopeWalksRow.holds Tryz.pinned (OpenSpec.ofChange scopeWalksSpec)

/-- ITS FALSE NEIGHBOUR: 'it returns false'. Refute it at one input. -/
def scopeWalksWrong : ChangeSpec := { name := "scopeWalks", fn := fun _ => fun
  | [d1, d2] => { results := [.lit (.bool false)], args := [d1, d2] }
  | _ => none }
def ScopeWalksWrongFalsely : Prop := scopeWalksRow.holds Tryz.pinned (OpenSpec.ofChange scopeWalksWrong)

/-- 'telltalelaw15.ScopeSure': WHATEVER THE INPUT: true; the input reads as it did. -/
def scopeSureSpec : ChangeSpec := { name := "scopeSure", fn := fun _ => fun
  | [d1, d2] => { results := [.lit (.bool true)], args := [d1, d2] }
  | _ => none }
def scopeSureRow : OpenClaim := { program := "ytbioikdfpfafaaagreatdoor", sum := "4d3d741e5fb6a878df52ed56238818954bffd394a2e9953afd18367e09a87be2", func := "telltale/telltalelaw15.ScopeSure", spec := "scopeSure", inPlace := ["internal/bytealg.IndexByteString", "math.Float64frombits", "internal/bytealg.IndexString", "internal/bytealg.CountString"], unfollowed := true, recurses := true, named := ["internal/bytealg.MaxLen", "unicode/utf8.first", "unicode/utf8.acceptRanges"], apart := false, laid := [("unicode/utf8.acceptRanges", laid_unicode_utf8_acceptRanges), ("unicode/utf8.first", laid_unicode_utf8_first)] }
def ScopeSureSaid : Prop := scopeSureRow.holds Tryz.pinned (OpenSpec.ofChange scopeSureSpec)

/-- ITS FALSE NEIGHBOUR: 'it returns false'. Refute it at one input. -/
def scopeSureWrong : ChangeSpec := { name := "scopeSure", fn := fun _ => fun
  | [d1, d2] => { results := [.lit (.bool false)], args := [d1, d2] }
  | _ => none }
def ScopeSureWrongFalsely : Prop := scopeSureRow.holds Tryz.pinned (OpenSpec.ofChange scopeSureWrong)

/-- 'telltalelaw15.ScopeRight': WHATEVER THE INPUT: true; the input reads as it did. -/
def scopeRightSpec : ChangeSpec := { name := "scopeRight", fn := fun _ => fun
  | [d1, d2, d3] => { results := [.lit (.bool true)], args := [d1, d2, d3] }
  | _ => none }
def scopeRightRow : OpenClaim := { program := "ytbioikdfpfafaaagreatdoor", sum := "4d3d741e5fb6a878df52ed56238818954bffd394a2e9953afd18367e09a87be2", func := "telltale/telltalelaw15.ScopeRight", spec := "scopeRight", inPlace := ["internal/bytealg.IndexByteString", "math.Float64frombits", "internal/bytealg.IndexString", "internal/bytealg.CountString"], unfollowed := true, recurses := true, named := ["internal/bytealg.MaxLen", "unicode/utf8.first", "unicode/utf8.acceptRanges"], apart := false, laid := [("unicode/utf8.acceptRanges", laid_unicode_utf8_acceptRanges), ("unicode/utf8.first", laid_unicode_utf8_first)] }
def ScopeRightSaid : Prop := scopeRightRow.holds Tryz.pinned (OpenSpec.ofChange scopeRightSpec)

/-- ITS FALSE NEIGHBOUR: 'it returns false'. Refute it at one input. -/
def scopeRightWrong : ChangeSpec := { name := "scopeRight", fn := fun _ => fun
  | [d1, d2, d3] => { results := [.lit (.bool false)], args := [d1, d2, d3] }
  | _ => none }
def ScopeRightWrongFalsely : Prop := scopeRightRow.holds Tryz.pinned (OpenSpec.ofChange scopeRightWrong)

/- THE SECOND FORM. 'bulk': how many values and letters a reading holds, each counted each time it is reached (what is shared counts as often as it is met; a slice's spare places count too). A statement '..UptoSaid' is the law's where the arguments, and the package variables that the reading takes, are together of bulk at most 1048576: NARROWER than '..Said'. Prove '..Said' where nothing that the law and all that it calls make is longer than what came in: it says more and counts as full. Else prove '..UptoSaid'. A law counts once. -/
mutual
def uptoBulk {H : Type} : DataW H → Nat
  | .lit (.string bytes) => bytes.length + 1
  | .lit _ => 1
  | .nil => 1
  | .ptr d => uptoBulk d + 1
  | .slice elems spare => uptoBulkAll elems + uptoBulkAll spare + 1
  | .agg parts => uptoBulkAll parts + 1
  | .iface _ d => uptoBulk d + 1
  | .map entries => uptoBulkEntries entries + 1
  | .held _ => 1
def uptoBulkAll {H : Type} : List (DataW H) → Nat
  | [] => 0
  | d :: r => uptoBulk d + uptoBulkAll r
def uptoBulkEntries {H : Type} : List (Lit × DataW H) → Nat
  | [] => 0
  | x :: r => uptoBulkEntry x + uptoBulkEntries r
def uptoBulkEntry {H : Type} : Lit × DataW H → Nat
  | (.string bytes, d) => bytes.length + uptoBulk d + 1
  | (_, d) => uptoBulk d + 1
 end
def uptoSmall : (H : Type) → List (DataW H) → Bool := fun _ ds => decide (uptoBulkAll ds ≤ 1048576)
def OpenSpec.upto (s : _root_.Go.ChangeSpec) : _root_.Go.OpenSpec := { _root_.Go.OpenSpec.ofChange s with cond := some uptoSmall }

/-- 'telltalelaw15.ScopeTells', WHERE WHAT IT READS IS OF BULK AT MOST 1048576: true; the input reads as it did. -/
def scopeTellsUptoRow : OpenClaim := { program := "ytbioikdfpfafaaagreatdoor", sum := "4d3d741e5fb6a878df52ed56238818954bffd394a2e9953afd18367e09a87be2", func := "telltale/telltalelaw15.ScopeTells", spec := "scopeTells", inPlace := ["internal/bytealg.IndexByteString", "math.Float64frombits", "internal/bytealg.IndexString", "internal/bytealg.CountString"], unfollowed := true, recurses := true, named := ["internal/bytealg.MaxLen", "unicode/utf8.first", "unicode/utf8.acceptRanges"], apart := false, laid := [("unicode/utf8.acceptRanges", laid_unicode_utf8_acceptRanges), ("unicode/utf8.first", laid_unicode_utf8_first)], narrowed := true }
def ScopeTellsUptoSaid : Prop := scopeTellsUptoRow.holds Tryz.pinned (OpenSpec.upto scopeTellsSpec)

/-- 'telltalelaw15.ScopeWalks', WHERE WHAT IT READS IS OF BULK AT MOST 1048576: true; the input reads as it did. -/
def scopeWalksUptoRow : OpenClaim := { program := "ytbioikdfpfafaaagreatdoor", sum := "4d3d741e5fb6a878df52ed56238818954bffd394a2e9953afd18367e09a87be2", func := "telltale/telltalelaw15.ScopeWalks", spec := "scopeWalks", inPlace := ["internal/bytealg.IndexByteString", "math.Float64frombits", "internal/bytealg.IndexString", "internal/bytealg.CountString"], unfollowed := true, recurses := true, named := ["internal/bytealg.MaxLen", "unicode/utf8.first", "unicode/utf8.acceptRanges"], apart := false, laid := [("unicode/utf8.acceptRanges", laid_unicode_utf8_acceptRanges), ("unicode/utf8.first", laid_unicode_utf8_first)], narrowed := true }
def ScopeWalksUptoSaid : Prop := scopeWalksUptoRow.holds Tryz.pinned (OpenSpec.upto scopeWalksSpec)

/-- 'telltalelaw15.ScopeSure', WHERE WHAT IT READS IS OF BULK AT MOST 1048576: true; the input reads as it did. -/
def scopeSureUptoRow : OpenClaim := { program := "ytbioikdfpfafaaagreatdoor", sum := "4d3d741e5fb6a878df52ed56238818954bffd394a2e9953afd18367e09a87be2", func := "telltale/telltalelaw15.ScopeSure", spec := "scopeSure", inPlace := ["internal/bytealg.IndexByteString", "math.Float64frombits", "internal/bytealg.IndexString", "internal/bytealg.CountString"], unfollowed := true, recurses := true, named := ["internal/bytealg.MaxLen", "unicode/utf8.first", "unicode/utf8.acceptRanges"], apart := false, laid := [("unicode/utf8.acceptRanges", laid_unicode_utf8_acceptRanges), ("unicode/utf8.first", laid_unicode_utf8_first)], narrowed := true }
def ScopeSureUptoSaid : Prop := scopeSureUptoRow.holds Tryz.pinned (OpenSpec.upto scopeSureSpec)

/-- 'telltalelaw15.ScopeRight', WHERE WHAT IT READS IS OF BULK AT MOST 1048576: true; the input reads as it did. -/
def scopeRightUptoRow : OpenClaim := { program := "ytbioikdfpfafaaagreatdoor", sum := "4d3d741e5fb6a878df52ed56238818954bffd394a2e9953afd18367e09a87be2", func := "telltale/telltalelaw15.ScopeRight", spec := "scopeRight", inPlace := ["internal/bytealg.IndexByteString", "math.Float64frombits", "internal/bytealg.IndexString", "internal/bytealg.CountString"], unfollowed := true, recurses := true, named := ["internal/bytealg.MaxLen", "unicode/utf8.first", "unicode/utf8.acceptRanges"], apart := false, laid := [("unicode/utf8.acceptRanges", laid_unicode_utf8_acceptRanges), ("unicode/utf8.first", laid_unicode_utf8_first)], narrowed := true }
def ScopeRightUptoSaid : Prop := scopeRightUptoRow.holds Tryz.pinned (OpenSpec.upto scopeRightSpec)

end Rows
end Go.Proofs.YtbioikdfpfafaaaGreatDoor
