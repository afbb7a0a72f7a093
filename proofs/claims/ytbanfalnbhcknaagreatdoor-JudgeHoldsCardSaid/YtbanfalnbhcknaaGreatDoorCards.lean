/-
  DERIVED. GIVEN WITH THE SEED: THE CARDS: each row of YtbanfalnbhcknaaGreatDoorRows.lean that lists a variable, with what it lists TIED to the program's text (the seventh form; the later family's looks); each row that meets fmt, with fmt's text TOLD by the authors' own Lean function (tested against real Go, not proved from fmt's source: count such statements apart). THE CARD IS WHAT COUNTS. Prove the row's statement (the work); the ties are given (YtbanfalnbhcknaaGreatDoorTie.lean); close each card by the builder's one call (the guide's Derived/Test/ToyasCard.lean, 'card_holds'). Laid BY PROGRAM, IN A SANDBOX (cutbox-door.mjs). By AI agents, Wed Nov 11 2026. No macro, syntax, notation, axiom, sorry.
-/
import Derived.Test.YtbanfalnbhcknaaGreatDoorRows
import GoSem.ClaimSeven
namespace Go.Proofs.YtbanfalnbhcknaaGreatDoor
namespace Rows

/-- THE TIED CARD OF 'telltalelaw20.JudgeLogic'. -/
def judgeLogicCard : Claim7 := { stood := { row := judgeLogicRow, standIns := [], harness := (true, "d6eb71b923262ee7cd617af3fc3f86eaec44b4288bb0d9a0ad8d60f82329799e"), looks := true }, kinds := [], alts := [], laidByText := true, laidKinds := [.data, .pinned], laidTests := true, laidLooks := .later }
def JudgeLogicCardSaid : Prop := Claim7.holds Tryz.pinned (.plain (OpenSpec.ofChange judgeLogicSpec)) judgeLogicCard

/-- THE TIED CARD OF 'telltalelaw20.JudgeHolds'. -/
def judgeHoldsCard : Claim7 := { stood := { row := judgeHoldsRow, standIns := [], harness := (true, "d6eb71b923262ee7cd617af3fc3f86eaec44b4288bb0d9a0ad8d60f82329799e"), looks := true }, kinds := [], alts := [], laidByText := true, laidKinds := [.data, .pinned], laidTests := true, laidLooks := .later }
def JudgeHoldsCardSaid : Prop := Claim7.holds Tryz.pinned (.plain (OpenSpec.ofChange judgeHoldsSpec)) judgeHoldsCard

/-- THE TIED CARD OF 'telltalelaw20.JudgeAhead'. -/
def judgeAheadCard : Claim7 := { stood := { row := judgeAheadRow, standIns := [], harness := (true, "d6eb71b923262ee7cd617af3fc3f86eaec44b4288bb0d9a0ad8d60f82329799e"), looks := true }, kinds := [], alts := [], laidByText := true, laidKinds := [.data, .pinned], laidTests := true, laidLooks := .later }
def JudgeAheadCardSaid : Prop := Claim7.holds Tryz.pinned (.plain (OpenSpec.ofChange judgeAheadSpec)) judgeAheadCard

/-- THE SECOND FORM's CARD OF 'telltalelaw20.JudgeLogic'. -/
def judgeLogicUptoCard : Claim7 := { stood := { row := judgeLogicUptoRow, standIns := [], harness := (true, "d6eb71b923262ee7cd617af3fc3f86eaec44b4288bb0d9a0ad8d60f82329799e"), looks := true }, kinds := [], alts := [], laidByText := true, laidKinds := [.data, .pinned], laidTests := true, laidLooks := .later }
def JudgeLogicUptoCardSaid : Prop := Claim7.holds Tryz.pinned (.plain (OpenSpec.upto judgeLogicSpec)) judgeLogicUptoCard

/-- THE SECOND FORM's CARD OF 'telltalelaw20.JudgeHolds'. -/
def judgeHoldsUptoCard : Claim7 := { stood := { row := judgeHoldsUptoRow, standIns := [], harness := (true, "d6eb71b923262ee7cd617af3fc3f86eaec44b4288bb0d9a0ad8d60f82329799e"), looks := true }, kinds := [], alts := [], laidByText := true, laidKinds := [.data, .pinned], laidTests := true, laidLooks := .later }
def JudgeHoldsUptoCardSaid : Prop := Claim7.holds Tryz.pinned (.plain (OpenSpec.upto judgeHoldsSpec)) judgeHoldsUptoCard

/-- THE SECOND FORM's CARD OF 'telltalelaw20.JudgeAhead'. -/
def judgeAheadUptoCard : Claim7 := { stood := { row := judgeAheadUptoRow, standIns := [], harness := (true, "d6eb71b923262ee7cd617af3fc3f86eaec44b4288bb0d9a0ad8d60f82329799e"), looks := true }, kinds := [], alts := [], laidByText := true, laidKinds := [.data, .pinned], laidTests := true, laidLooks := .later }
def JudgeAheadUptoCardSaid : Prop := Claim7.holds Tryz.pinned (.plain (OpenSpec.upto judgeAheadSpec)) judgeAheadUptoCard
end Rows
end Go.Proofs.YtbanfalnbhcknaaGreatDoor
