/-
  DERIVED. GIVEN WITH THE SEED: THE CARDS: each row of YtfmibkkigkgecaaGreatDoorRows.lean that lists a variable, with what it lists TIED to the program's text (the seventh form; the later family's looks); each row that meets fmt, with fmt's text TOLD by the authors' own Lean function (tested against real Go, not proved from fmt's source: count such statements apart). THE CARD IS WHAT COUNTS. Prove the row's statement (the work); the ties are given (YtfmibkkigkgecaaGreatDoorTie.lean); close each card by the builder's one call (the guide's Derived/Test/ToyasCard.lean, 'card_holds'). Laid BY PROGRAM, IN A SANDBOX (cutbox-door.mjs). By AI agents, Wed Nov 11 2026. No macro, syntax, notation, axiom, sorry.
-/
import Derived.Test.YtfmibkkigkgecaaGreatDoorRows
import GoSem.ClaimSeven
namespace Go.Proofs.YtfmibkkigkgecaaGreatDoor
namespace Rows

/-- THE TIED CARD OF 'telltalelaw12.PredtextParses'. -/
def predtextParsesCard : Claim7 := { stood := { row := predtextParsesRow, standIns := [], harness := (true, "607fcd62c8b3f2164f0ff29f689161005c0adc74c8f466ef6fc36c415bc45839"), looks := true }, kinds := [], alts := [], laidByText := true, laidKinds := [.handle], laidTests := true, laidLooks := .later }
def PredtextParsesCardSaid : Prop := Claim7.holds Tryz.pinned (.plain (OpenSpec.ofChange predtextParsesSpec)) predtextParsesCard

/-- THE TIED CARD OF 'telltalelaw12.PredtextReads'. -/
def predtextReadsCard : Claim7 := { stood := { row := predtextReadsRow, standIns := [], harness := (true, "607fcd62c8b3f2164f0ff29f689161005c0adc74c8f466ef6fc36c415bc45839"), looks := true }, kinds := [], alts := [], laidByText := true, laidKinds := [.handle], laidTests := true, laidLooks := .later }
def PredtextReadsCardSaid : Prop := Claim7.holds Tryz.pinned (.plain (OpenSpec.ofChange predtextReadsSpec)) predtextReadsCard

/-- THE TIED CARD OF 'telltalelaw12.PredtextBack'. -/
def predtextBackCard : Claim7 := { stood := { row := predtextBackRow, standIns := [], harness := (true, "607fcd62c8b3f2164f0ff29f689161005c0adc74c8f466ef6fc36c415bc45839"), looks := true }, kinds := [], alts := [], laidByText := true, laidKinds := [.handle], laidTests := true, laidLooks := .later }
def PredtextBackCardSaid : Prop := Claim7.holds Tryz.pinned (.plain (OpenSpec.ofChange predtextBackSpec)) predtextBackCard

/-- THE TIED CARD OF 'telltalelaw12.PredtextBrackets'. -/
def predtextBracketsCard : Claim7 := { stood := { row := predtextBracketsRow, standIns := [], harness := (true, "607fcd62c8b3f2164f0ff29f689161005c0adc74c8f466ef6fc36c415bc45839"), looks := true }, kinds := [], alts := [], laidByText := true, laidKinds := [.handle], laidTests := true, laidLooks := .later }
def PredtextBracketsCardSaid : Prop := Claim7.holds Tryz.pinned (.plain (OpenSpec.ofChange predtextBracketsSpec)) predtextBracketsCard

/-- THE SECOND FORM's CARD OF 'telltalelaw12.PredtextParses'. -/
def predtextParsesUptoCard : Claim7 := { stood := { row := predtextParsesUptoRow, standIns := [], harness := (true, "607fcd62c8b3f2164f0ff29f689161005c0adc74c8f466ef6fc36c415bc45839"), looks := true }, kinds := [], alts := [], laidByText := true, laidKinds := [.handle], laidTests := true, laidLooks := .later }
def PredtextParsesUptoCardSaid : Prop := Claim7.holds Tryz.pinned (.plain (OpenSpec.upto predtextParsesSpec)) predtextParsesUptoCard

/-- THE SECOND FORM's CARD OF 'telltalelaw12.PredtextReads'. -/
def predtextReadsUptoCard : Claim7 := { stood := { row := predtextReadsUptoRow, standIns := [], harness := (true, "607fcd62c8b3f2164f0ff29f689161005c0adc74c8f466ef6fc36c415bc45839"), looks := true }, kinds := [], alts := [], laidByText := true, laidKinds := [.handle], laidTests := true, laidLooks := .later }
def PredtextReadsUptoCardSaid : Prop := Claim7.holds Tryz.pinned (.plain (OpenSpec.upto predtextReadsSpec)) predtextReadsUptoCard

/-- THE SECOND FORM's CARD OF 'telltalelaw12.PredtextBack'. -/
def predtextBackUptoCard : Claim7 := { stood := { row := predtextBackUptoRow, standIns := [], harness := (true, "607fcd62c8b3f2164f0ff29f689161005c0adc74c8f466ef6fc36c415bc45839"), looks := true }, kinds := [], alts := [], laidByText := true, laidKinds := [.handle], laidTests := true, laidLooks := .later }
def PredtextBackUptoCardSaid : Prop := Claim7.holds Tryz.pinned (.plain (OpenSpec.upto predtextBackSpec)) predtextBackUptoCard

/-- THE SECOND FORM's CARD OF 'telltalelaw12.PredtextBrackets'. -/
def predtextBracketsUptoCard : Claim7 := { stood := { row := predtextBracketsUptoRow, standIns := [], harness := (true, "607fcd62c8b3f2164f0ff29f689161005c0adc74c8f466ef6fc36c415bc45839"), looks := true }, kinds := [], alts := [], laidByText := true, laidKinds := [.handle], laidTests := true, laidLooks := .later }
def PredtextBracketsUptoCardSaid : Prop := Claim7.holds Tryz.pinned (.plain (OpenSpec.upto predtextBracketsSpec)) predtextBracketsUptoCard
end Rows
end Go.Proofs.YtfmibkkigkgecaaGreatDoor
