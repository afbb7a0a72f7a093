/-
  No cell of these rows narrows 'for every input' (looked for: loops, veiled, ifaces, maps, wideKeys, modest, calm, conditions, laid).
  DERIVED. THE GIVEN ROWS OF THIS SEAT. 3 by the template 'for every input the law returns true; each argument reads behind the call as it read before'; 0 by the template 'total and deterministic' (their statements: YtmfkphajohcklaaGreatTotals.lean).
  GIVEN WITH THE SEED: the statements are not yours to turn. If you find one false, say at which input.
  Laid BY PROGRAM, IN A SANDBOX (cutbox-rows.mjs): the forced cells as the released guide's own fill.sh prints them over the translation 62009fa132c537a4… (all of the seat's roots in one cut). By AI agents, Wed Nov 11 2026. No macro, syntax, notation, axiom, sorry.
-/
import Derived.Test.YtmfkphajohcklaaGreatChecked
import GoSem.Claim
import GoSem.ClaimJoined
import GoSem.ClaimMapViews
import Derived.JoinedTies
import Derived.KernelRfl
namespace Go.Proofs.YtmfkphajohcklaaGreat
/- THE CELL 'sum', in the pinned program and in every row, IS THE sha256 OF THE DUMP (.gsa) THAT YtmfkphajohcklaaGreatProg.lean LOADS. Nothing in Lean hashes anything: it is a label: what it is worth is what the hold of that sum in a sandbox is worth. -/
noncomputable def Tryz.pinned : Pinned := { name := "ytmfkphajohcklaagreat", sum := "62009fa132c537a4af9662cde5250e0b5bdd0187f9edc115b14e16b4a53e5749", checked := Tryz.checked }
namespace Rows
def none {H : Type} : Left H := { results := [], args := [] }

/-- 'telltalelaw18.AutoBuilds': WHATEVER THE INPUT: true; the input reads as it did. -/
def autoBuildsSpec : ChangeSpec := { name := "autoBuilds", fn := fun _ => fun
  | [d] => { results := [.lit (.bool true)], args := [d] }
  | _ => none }
def autoBuildsRow : OpenClaim := { program := "ytmfkphajohcklaagreat", sum := "62009fa132c537a4af9662cde5250e0b5bdd0187f9edc115b14e16b4a53e5749", func := "telltale/telltalelaw18.AutoBuilds", spec := "autoBuilds", inPlace := ["internal/bytealg.IndexByteString", "math.Float64frombits"], unfollowed := true, recurses := true, plainKeys := false, apart := false }
def AutoBuildsSaid : Prop := autoBuildsRow.holds Tryz.pinned (OpenSpec.ofChange autoBuildsSpec)

/-- ITS FALSE NEIGHBOUR: 'it returns false'. Refute it at one input. -/
def autoBuildsWrong : ChangeSpec := { name := "autoBuilds", fn := fun _ => fun
  | [d] => { results := [.lit (.bool false)], args := [d] }
  | _ => none }
def AutoBuildsWrongFalsely : Prop := autoBuildsRow.holds Tryz.pinned (OpenSpec.ofChange autoBuildsWrong)

/-- 'telltalelaw18.AutoOrder': WHATEVER THE INPUT: true; the input reads as it did. -/
def autoOrderSpec : ChangeSpec := { name := "autoOrder", fn := fun _ => fun
  | [d] => { results := [.lit (.bool true)], args := [d] }
  | _ => none }
def autoOrderRow : OpenClaim := { program := "ytmfkphajohcklaagreat", sum := "62009fa132c537a4af9662cde5250e0b5bdd0187f9edc115b14e16b4a53e5749", func := "telltale/telltalelaw18.AutoOrder", spec := "autoOrder", inPlace := ["internal/bytealg.IndexByteString", "math.Float64frombits"], unfollowed := true, recurses := true, plainKeys := false, apart := false }
def AutoOrderSaid : Prop := autoOrderRow.holds Tryz.pinned (OpenSpec.ofChange autoOrderSpec)

/-- ITS FALSE NEIGHBOUR: 'it returns false'. Refute it at one input. -/
def autoOrderWrong : ChangeSpec := { name := "autoOrder", fn := fun _ => fun
  | [d] => { results := [.lit (.bool false)], args := [d] }
  | _ => none }
def AutoOrderWrongFalsely : Prop := autoOrderRow.holds Tryz.pinned (OpenSpec.ofChange autoOrderWrong)

/-- 'telltalelaw18.AutoPaths': WHATEVER THE INPUT: true; the input reads as it did. -/
def autoPathsSpec : ChangeSpec := { name := "autoPaths", fn := fun _ => fun
  | [d1, d2] => { results := [.lit (.bool true)], args := [d1, d2] }
  | _ => none }
def autoPathsRow : OpenClaim := { program := "ytmfkphajohcklaagreat", sum := "62009fa132c537a4af9662cde5250e0b5bdd0187f9edc115b14e16b4a53e5749", func := "telltale/telltalelaw18.AutoPaths", spec := "autoPaths", inPlace := ["internal/bytealg.IndexByteString", "math.Float64frombits"], unfollowed := true, recurses := true, plainKeys := false, apart := false }
def AutoPathsSaid : Prop := autoPathsRow.holds Tryz.pinned (OpenSpec.ofChange autoPathsSpec)

/-- ITS FALSE NEIGHBOUR: 'it returns false'. Refute it at one input. -/
def autoPathsWrong : ChangeSpec := { name := "autoPaths", fn := fun _ => fun
  | [d1, d2] => { results := [.lit (.bool false)], args := [d1, d2] }
  | _ => none }
def AutoPathsWrongFalsely : Prop := autoPathsRow.holds Tryz.pinned (OpenSpec.ofChange autoPathsWrong)

/- THE SECOND FORM. 'bulk': how many values and letters a reading holds, each counted each time it is reached (what is shared counts as often as it is met; a slice's spare places count too). A statement '..UptoSaid' is the law's where the arguments, and the package variables that the reading takes, are together of bulk at most 1048576: NARROWER than '..Said'. Prove '..Said' where nothing that the law and all that it calls make is longer than what came in: it says more and counts as full. Else prove '..UptoSaid'. A law counts once. -/
mutual
def uptoBulk {H : Type} : DataW H → Nat
  | .lit (.string bytes) => bytes.length + 1
  | .lit _ => 1
  | .nil => 1
  | .ptr d => uptoBulk d + 1
  | .slice elems spare => uptoBulkAll elems + uptoBulkAll spare + 1
  | .agg parts => uptoBulkAll parts + 1
  | .iface _ d => uptoBulk d + 1
  | .map entries => uptoBulkEntries entries + 1
  | .held _ => 1
def uptoBulkAll {H : Type} : List (DataW H) → Nat
  | [] => 0
  | d :: r => uptoBulk d + uptoBulkAll r
def uptoBulkEntries {H : Type} : List (Lit × DataW H) → Nat
  | [] => 0
  | x :: r => uptoBulkEntry x + uptoBulkEntries r
def uptoBulkEntry {H : Type} : Lit × DataW H → Nat
  | (.string bytes, d) => bytes.length + uptoBulk d + 1
  | (_, d) => uptoBulk d + 1
 end
def uptoSmall : (H : Type) → List (DataW H) → Bool := fun _ ds => decide (uptoBulkAll ds ≤ 1048576)
def OpenSpec.upto (s : _root_.Go.ChangeSpec) : _root_.Go.OpenSpec := { _root_.Go.OpenSpec.ofChange s with cond := some uptoSmall }

/-- 'telltalelaw18.AutoBuilds', WHERE WHAT IT READS IS OF BULK AT MOST 1048576: true; the input reads as it did. -/
def autoBuildsUptoRow : OpenClaim := { program := "ytmfkphajohcklaagreat", sum := "62009fa132c537a4af9662cde5250e0b5bdd0187f9edc115b14e16b4a53e5749", func := "telltale/telltalelaw18.AutoBuilds", spec := "autoBuilds", inPlace := ["internal/bytealg.IndexByteString", "math.Float64frombits"], unfollowed := true, recurses := true, plainKeys := false, apart := false, narrowed := true }
def AutoBuildsUptoSaid : Prop := autoBuildsUptoRow.holds Tryz.pinned (OpenSpec.upto autoBuildsSpec)

/-- 'telltalelaw18.AutoOrder', WHERE WHAT IT READS IS OF BULK AT MOST 1048576: true; the input reads as it did. -/
def autoOrderUptoRow : OpenClaim := { program := "ytmfkphajohcklaagreat", sum := "62009fa132c537a4af9662cde5250e0b5bdd0187f9edc115b14e16b4a53e5749", func := "telltale/telltalelaw18.AutoOrder", spec := "autoOrder", inPlace := ["internal/bytealg.IndexByteString", "math.Float64frombits"], unfollowed := true, recurses := true, plainKeys := false, apart := false, narrowed := true }
def AutoOrderUptoSaid : Prop := autoOrderUptoRow.holds Tryz.pinned (OpenSpec.upto autoOrderSpec)

/-- 'telltalelaw18.AutoPaths', WHERE WHAT IT READS IS OF BULK AT MOST 1048576: true; the input reads as it did. -/
def autoPathsUptoRow : OpenClaim := { program := "ytmfkphajohcklaagreat", sum := "62009fa132c537a4af9662cde5250e0b5bdd0187f9edc115b14e16b4a53e5749", func := "telltale/telltalelaw18.AutoPaths", spec := "autoPaths", inPlace := ["internal/bytealg.IndexByteString", "math.Float64frombits"], unfollowed := true, recurses := true, plainKeys := false, apart := false, narrowed := true }
def AutoPathsUptoSaid : Prop := autoPathsUptoRow.holds Tryz.pinned (OpenSpec.upto autoPathsSpec)

end Rows
end Go.Proofs.YtmfkphajohcklaaGreat
