/-
  No cell of these rows narrows 'for every input' (looked for: loops, veiled, ifaces, maps, wideKeys, modest, calm, conditions, laid).
  DERIVED. THE GIVEN ROWS OF THIS SEAT. 4 by the template 'for every input the law returns true; each argument reads behind the call as it read before'; 0 by the template 'total and deterministic' (their statements: YtmllclbhdmajmaaGreatTotals.lean).
  GIVEN WITH THE SEED: the statements are not yours to turn. If you find one false, say at which input.
  Laid BY PROGRAM, IN A SANDBOX (cutbox-rows.mjs): the forced cells as the released guide's own fill.sh prints them over the translation 8b7bc52ed2a0fa81… (all of the seat's roots in one cut). By AI agents, Wed Nov 11 2026. No macro, syntax, notation, axiom, sorry.
-/
import Derived.Test.YtmllclbhdmajmaaGreatChecked
import GoSem.Claim
import GoSem.ClaimJoined
import GoSem.ClaimMapViews
import Derived.JoinedTies
import Derived.KernelRfl
namespace Go.Proofs.YtmllclbhdmajmaaGreat
/- THE CELL 'sum', in the pinned program and in every row, IS THE sha256 OF THE DUMP (.gsa) THAT YtmllclbhdmajmaaGreatProg.lean LOADS. Nothing in Lean hashes anything: it is a label: what it is worth is what the hold of that sum in a sandbox is worth. -/
noncomputable def Tryz.pinned : Pinned := { name := "ytmllclbhdmajmaagreat", sum := "8b7bc52ed2a0fa819d26026bbc9acd93578c1085accbcc663e196f0e9e6d1799", checked := Tryz.checked }
namespace Rows
def none {H : Type} : Left H := { results := [], args := [] }

/-- 'telltalelaw16.CoreBuilds': WHATEVER THE INPUT: true; the input reads as it did. -/
def coreBuildsSpec : ChangeSpec := { name := "coreBuilds", fn := fun _ => fun
  | [d1, d2] => { results := [.lit (.bool true)], args := [d1, d2] }
  | _ => none }
def coreBuildsRow : OpenClaim := { program := "ytmllclbhdmajmaagreat", sum := "8b7bc52ed2a0fa819d26026bbc9acd93578c1085accbcc663e196f0e9e6d1799", func := "telltale/telltalelaw16.CoreBuilds", spec := "coreBuilds", inPlace := ["internal/bytealg.IndexByteString", "math.Float64frombits"], unfollowed := true, recurses := true, plainKeys := false, apart := false }
def CoreBuildsSaid : Prop := coreBuildsRow.holds Tryz.pinned (OpenSpec.ofChange coreBuildsSpec)

/-- ITS FALSE NEIGHBOUR: 'it returns false'. Refute it at one input. -/
def coreBuildsWrong : ChangeSpec := { name := "coreBuilds", fn := fun _ => fun
  | [d1, d2] => { results := [.lit (.bool false)], args := [d1, d2] }
  | _ => none }
def CoreBuildsWrongFalsely : Prop := coreBuildsRow.holds Tryz.pinned (OpenSpec.ofChange coreBuildsWrong)

/-- 'telltalelaw16.CoreAccepts': WHATEVER THE INPUT: true; the input reads as it did. -/
def coreAcceptsSpec : ChangeSpec := { name := "coreAccepts", fn := fun _ => fun
  | [d1, d2, d3] => { results := [.lit (.bool true)], args := [d1, d2, d3] }
  | _ => none }
def coreAcceptsRow : OpenClaim := { program := "ytmllclbhdmajmaagreat", sum := "8b7bc52ed2a0fa819d26026bbc9acd93578c1085accbcc663e196f0e9e6d1799", func := "telltale/telltalelaw16.CoreAccepts", spec := "coreAccepts", inPlace := ["internal/bytealg.IndexByteString", "math.Float64frombits"], unfollowed := true, recurses := true, plainKeys := false, apart := false }
def CoreAcceptsSaid : Prop := coreAcceptsRow.holds Tryz.pinned (OpenSpec.ofChange coreAcceptsSpec)

/-- ITS FALSE NEIGHBOUR: 'it returns false'. Refute it at one input. -/
def coreAcceptsWrong : ChangeSpec := { name := "coreAccepts", fn := fun _ => fun
  | [d1, d2, d3] => { results := [.lit (.bool false)], args := [d1, d2, d3] }
  | _ => none }
def CoreAcceptsWrongFalsely : Prop := coreAcceptsRow.holds Tryz.pinned (OpenSpec.ofChange coreAcceptsWrong)

/-- 'telltalelaw16.CoreWords': WHATEVER THE INPUT: true; the input reads as it did. -/
def coreWordsSpec : ChangeSpec := { name := "coreWords", fn := fun _ => fun
  | [d1, d2] => { results := [.lit (.bool true)], args := [d1, d2] }
  | _ => none }
def coreWordsRow : OpenClaim := { program := "ytmllclbhdmajmaagreat", sum := "8b7bc52ed2a0fa819d26026bbc9acd93578c1085accbcc663e196f0e9e6d1799", func := "telltale/telltalelaw16.CoreWords", spec := "coreWords", inPlace := ["internal/bytealg.IndexByteString", "math.Float64frombits"], unfollowed := true, recurses := true, plainKeys := false, apart := false }
def CoreWordsSaid : Prop := coreWordsRow.holds Tryz.pinned (OpenSpec.ofChange coreWordsSpec)

/-- ITS FALSE NEIGHBOUR: 'it returns false'. Refute it at one input. -/
def coreWordsWrong : ChangeSpec := { name := "coreWords", fn := fun _ => fun
  | [d1, d2] => { results := [.lit (.bool false)], args := [d1, d2] }
  | _ => none }
def CoreWordsWrongFalsely : Prop := coreWordsRow.holds Tryz.pinned (OpenSpec.ofChange coreWordsWrong)

/-- 'telltalelaw16.CoreWalks': WHATEVER THE INPUT: true; the input reads as it did. -/
def coreWalksSpec : ChangeSpec := { name := "coreWalks", fn := fun _ => fun
  | [d1, d2] => { results := [.lit (.bool true)], args := [d1, d2] }
  | _ => none }
def coreWalksRow : OpenClaim := { program := "ytmllclbhdmajmaagreat", sum := "8b7bc52ed2a0fa819d26026bbc9acd93578c1085accbcc663e196f0e9e6d1799", func := "telltale/telltalelaw16.CoreWalks", spec := "coreWalks", inPlace := ["internal/bytealg.IndexByteString", "math.Float64frombits"], unfollowed := true, recurses := true, plainKeys := false, apart := false }
def CoreWalksSaid : Prop := coreWalksRow.holds Tryz.pinned (OpenSpec.ofChange coreWalksSpec)

/-- ITS FALSE NEIGHBOUR: 'it returns false'. Refute it at one input. -/
def coreWalksWrong : ChangeSpec := { name := "coreWalks", fn := fun _ => fun
  | [d1, d2] => { results := [.lit (.bool false)], args := [d1, d2] }
  | _ => none }
def CoreWalksWrongFalsely : Prop := coreWalksRow.holds Tryz.pinned (OpenSpec.ofChange coreWalksWrong)

/- THE SECOND FORM. 'bulk': how many values and letters a reading holds, each counted each time it is reached (what is shared counts as often as it is met; a slice's spare places count too). A statement '..UptoSaid' is the law's where the arguments, and the package variables that the reading takes, are together of bulk at most 1048576: NARROWER than '..Said'. Prove '..Said' where nothing that the law and all that it calls make is longer than what came in: it says more and counts as full. Else prove '..UptoSaid'. A law counts once. -/
mutual
def uptoBulk {H : Type} : DataW H → Nat
  | .lit (.string bytes) => bytes.length + 1
  | .lit _ => 1
  | .nil => 1
  | .ptr d => uptoBulk d + 1
  | .slice elems spare => uptoBulkAll elems + uptoBulkAll spare + 1
  | .agg parts => uptoBulkAll parts + 1
  | .iface _ d => uptoBulk d + 1
  | .map entries => uptoBulkEntries entries + 1
  | .held _ => 1
def uptoBulkAll {H : Type} : List (DataW H) → Nat
  | [] => 0
  | d :: r => uptoBulk d + uptoBulkAll r
def uptoBulkEntries {H : Type} : List (Lit × DataW H) → Nat
  | [] => 0
  | x :: r => uptoBulkEntry x + uptoBulkEntries r
def uptoBulkEntry {H : Type} : Lit × DataW H → Nat
  | (.string bytes, d) => bytes.length + uptoBulk d + 1
  | (_, d) => uptoBulk d + 1
 end
def uptoSmall : (H : Type) → List (DataW H) → Bool := fun _ ds => decide (uptoBulkAll ds ≤ 1048576)
def OpenSpec.upto (s : _root_.Go.ChangeSpec) : _root_.Go.OpenSpec := { _root_.Go.OpenSpec.ofChange s with cond := some uptoSmall }

/-- 'telltalelaw16.CoreBuilds', WHERE WHAT IT READS IS OF BULK AT MOST 1048576: true; the input reads as it did. -/
def coreBuildsUptoRow : OpenClaim := { program := "ytmllclbhdmajmaagreat", sum := "8b7bc52ed2a0fa819d26026bbc9acd93578c1085accbcc663e196f0e9e6d1799", func := "telltale/telltalelaw16.CoreBuilds", spec := "coreBuilds", inPlace := ["internal/bytealg.IndexByteString", "math.Float64frombits"], unfollowed := true, recurses := true, plainKeys := false, apart := false, narrowed := true }
def CoreBuildsUptoSaid : Prop := coreBuildsUptoRow.holds Tryz.pinned (OpenSpec.upto coreBuildsSpec)

/-- 'telltalelaw16.CoreAccepts', WHERE WHAT IT READS IS OF BULK AT MOST 1048576: true; the input reads as it did. -/
def coreAcceptsUptoRow : OpenClaim := { program := "ytmllclbhdmajmaagreat", sum := "8b7bc52ed2a0fa819d26026bbc9acd93578c1085accbcc663e196f0e9e6d1799", func := "telltale/telltalelaw16.CoreAccepts", spec := "coreAccepts", inPlace := ["internal/bytealg.IndexByteString", "math.Float64frombits"], unfollowed := true, recurses := true, plainKeys := false, apart := false, narrowed := true }
def CoreAcceptsUptoSaid : Prop := coreAcceptsUptoRow.holds Tryz.pinned (OpenSpec.upto coreAcceptsSpec)

/-- 'telltalelaw16.CoreWords', WHERE WHAT IT READS IS OF BULK AT MOST 1048576: true; the input reads as it did. -/
def coreWordsUptoRow : OpenClaim := { program := "ytmllclbhdmajmaagreat", sum := "8b7bc52ed2a0fa819d26026bbc9acd93578c1085accbcc663e196f0e9e6d1799", func := "telltale/telltalelaw16.CoreWords", spec := "coreWords", inPlace := ["internal/bytealg.IndexByteString", "math.Float64frombits"], unfollowed := true, recurses := true, plainKeys := false, apart := false, narrowed := true }
def CoreWordsUptoSaid : Prop := coreWordsUptoRow.holds Tryz.pinned (OpenSpec.upto coreWordsSpec)

/-- 'telltalelaw16.CoreWalks', WHERE WHAT IT READS IS OF BULK AT MOST 1048576: true; the input reads as it did. -/
def coreWalksUptoRow : OpenClaim := { program := "ytmllclbhdmajmaagreat", sum := "8b7bc52ed2a0fa819d26026bbc9acd93578c1085accbcc663e196f0e9e6d1799", func := "telltale/telltalelaw16.CoreWalks", spec := "coreWalks", inPlace := ["internal/bytealg.IndexByteString", "math.Float64frombits"], unfollowed := true, recurses := true, plainKeys := false, apart := false, narrowed := true }
def CoreWalksUptoSaid : Prop := coreWalksUptoRow.holds Tryz.pinned (OpenSpec.upto coreWalksSpec)

end Rows
end Go.Proofs.YtmllclbhdmajmaaGreat
