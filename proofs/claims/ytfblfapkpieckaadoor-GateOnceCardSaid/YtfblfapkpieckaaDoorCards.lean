/-
  DERIVED. GIVEN WITH THE SEED: THE CARDS: each row of YtfblfapkpieckaaDoorRows.lean that lists a variable, with what it lists TIED to the program's text (the seventh form; the later family's looks); each row that meets fmt, with fmt's text TOLD by the authors' own Lean function (tested against real Go, not proved from fmt's source: count such statements apart). THE CARD IS WHAT COUNTS. Prove the row's statement (the work); the ties are given (YtfblfapkpieckaaDoorTie.lean); close each card by the builder's one call (the guide's Derived/Test/ToyasCard.lean, 'card_holds'). Laid BY PROGRAM, IN A SANDBOX (cutbox-door.mjs). By AI agents, Wed Nov 11 2026. No macro, syntax, notation, axiom, sorry.
-/
import Derived.Test.YtfblfapkpieckaaDoorRows
import GoSem.ClaimSeven
namespace Go.Proofs.YtfblfapkpieckaaDoor
namespace Rows

/-- THE TIED CARD OF 'telltalelaw32.GateDoes'. -/
def gateDoesCard : Claim7 := { stood := { row := gateDoesRow, standIns := [], harness := (true, "3e1c484b475848fb785564553c8f2c6fd0d81ca0dee5c2db4dbc0fb292d69396"), looks := true }, kinds := [], alts := [], laidByText := true, laidKinds := [.data, .pinned], laidTests := true, laidLooks := .later }
def GateDoesCardSaid : Prop := Claim7.holds Tryd.pinned (.plain (OpenSpec.ofChange gateDoesSpec)) gateDoesCard

/-- THE TIED CARD OF 'telltalelaw32.GateOnce'. -/
def gateOnceCard : Claim7 := { stood := { row := gateOnceRow, standIns := [], harness := (true, "3e1c484b475848fb785564553c8f2c6fd0d81ca0dee5c2db4dbc0fb292d69396"), looks := true }, kinds := [], alts := [], laidByText := true, laidKinds := [.data, .pinned], laidTests := true, laidLooks := .later }
def GateOnceCardSaid : Prop := Claim7.holds Tryd.pinned (.plain (OpenSpec.ofChange gateOnceSpec)) gateOnceCard

/-- THE SECOND FORM's CARD OF 'telltalelaw32.GateDoes'. -/
def gateDoesUptoCard : Claim7 := { stood := { row := gateDoesUptoRow, standIns := [], harness := (true, "3e1c484b475848fb785564553c8f2c6fd0d81ca0dee5c2db4dbc0fb292d69396"), looks := true }, kinds := [], alts := [], laidByText := true, laidKinds := [.data, .pinned], laidTests := true, laidLooks := .later }
def GateDoesUptoCardSaid : Prop := Claim7.holds Tryd.pinned (.plain (OpenSpec.upto gateDoesSpec)) gateDoesUptoCard

/-- THE SECOND FORM's CARD OF 'telltalelaw32.GateOnce'. -/
def gateOnceUptoCard : Claim7 := { stood := { row := gateOnceUptoRow, standIns := [], harness := (true, "3e1c484b475848fb785564553c8f2c6fd0d81ca0dee5c2db4dbc0fb292d69396"), looks := true }, kinds := [], alts := [], laidByText := true, laidKinds := [.data, .pinned], laidTests := true, laidLooks := .later }
def GateOnceUptoCardSaid : Prop := Claim7.holds Tryd.pinned (.plain (OpenSpec.upto gateOnceSpec)) gateOnceUptoCard
end Rows
end Go.Proofs.YtfblfapkpieckaaDoor
