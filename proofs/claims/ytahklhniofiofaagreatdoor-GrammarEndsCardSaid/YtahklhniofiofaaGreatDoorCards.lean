/-
  DERIVED. GIVEN WITH THE SEED: THE CARDS: each row of YtahklhniofiofaaGreatDoorRows.lean that lists a variable, with what it lists TIED to the program's text (the seventh form; the later family's looks); each row that meets fmt, with fmt's text TOLD by the authors' own Lean function (tested against real Go, not proved from fmt's source: count such statements apart). THE CARD IS WHAT COUNTS. Prove the row's statement (the work); the ties are given (YtahklhniofiofaaGreatDoorTie.lean); close each card by the builder's one call (the guide's Derived/Test/ToyasCard.lean, 'card_holds'). Laid BY PROGRAM, IN A SANDBOX (cutbox-door.mjs). By AI agents, Wed Nov 11 2026. No macro, syntax, notation, axiom, sorry.
-/
import Derived.Test.YtahklhniofiofaaGreatDoorRows
import GoSem.ClaimSeven
namespace Go.Proofs.YtahklhniofiofaaGreatDoor
namespace Rows

/-- THE TIED CARD OF 'telltalelaw14.GrammarParses'. -/
def grammarParsesCard : Claim7 := { stood := { row := grammarParsesRow, standIns := [], harness := (true, "a030be6fc3c9ac4ba4f94ad62051750523f5f2b95e5e5f0eb29d4520ddb9485a"), looks := true }, kinds := [], alts := [], laidByText := true, laidKinds := [.handle], laidTests := true, laidLooks := .later }
def GrammarParsesCardSaid : Prop := Claim7.holds Tryz.pinned (.plain (OpenSpec.ofChange grammarParsesSpec)) grammarParsesCard

/-- THE TIED CARD OF 'telltalelaw14.GrammarDeep'. -/
def grammarDeepCard : Claim7 := { stood := { row := grammarDeepRow, standIns := [], harness := (true, "a030be6fc3c9ac4ba4f94ad62051750523f5f2b95e5e5f0eb29d4520ddb9485a"), looks := true }, kinds := [], alts := [], laidByText := true, laidKinds := [.handle], laidTests := true, laidLooks := .later }
def GrammarDeepCardSaid : Prop := Claim7.holds Tryz.pinned (.plain (OpenSpec.ofChange grammarDeepSpec)) grammarDeepCard

/-- THE TIED CARD OF 'telltalelaw14.GrammarBack'. -/
def grammarBackCard : Claim7 := { stood := { row := grammarBackRow, standIns := [], harness := (true, "a030be6fc3c9ac4ba4f94ad62051750523f5f2b95e5e5f0eb29d4520ddb9485a"), looks := true }, kinds := [], alts := [], laidByText := true, laidKinds := [.handle], laidTests := true, laidLooks := .later }
def GrammarBackCardSaid : Prop := Claim7.holds Tryz.pinned (.plain (OpenSpec.ofChange grammarBackSpec)) grammarBackCard

/-- THE TIED CARD OF 'telltalelaw14.GrammarEnds'. -/
def grammarEndsCard : Claim7 := { stood := { row := grammarEndsRow, standIns := [], harness := (true, "a030be6fc3c9ac4ba4f94ad62051750523f5f2b95e5e5f0eb29d4520ddb9485a"), looks := true }, kinds := [], alts := [], laidByText := true, laidKinds := [.handle], laidTests := true, laidLooks := .later }
def GrammarEndsCardSaid : Prop := Claim7.holds Tryz.pinned (.plain (OpenSpec.ofChange grammarEndsSpec)) grammarEndsCard

/-- THE TIED CARD OF 'telltalelaw14.GrammarBrackets'. -/
def grammarBracketsCard : Claim7 := { stood := { row := grammarBracketsRow, standIns := [], harness := (true, "a030be6fc3c9ac4ba4f94ad62051750523f5f2b95e5e5f0eb29d4520ddb9485a"), looks := true }, kinds := [], alts := [], laidByText := true, laidKinds := [.handle], laidTests := true, laidLooks := .later }
def GrammarBracketsCardSaid : Prop := Claim7.holds Tryz.pinned (.plain (OpenSpec.ofChange grammarBracketsSpec)) grammarBracketsCard

/-- THE SECOND FORM's CARD OF 'telltalelaw14.GrammarParses'. -/
def grammarParsesUptoCard : Claim7 := { stood := { row := grammarParsesUptoRow, standIns := [], harness := (true, "a030be6fc3c9ac4ba4f94ad62051750523f5f2b95e5e5f0eb29d4520ddb9485a"), looks := true }, kinds := [], alts := [], laidByText := true, laidKinds := [.handle], laidTests := true, laidLooks := .later }
def GrammarParsesUptoCardSaid : Prop := Claim7.holds Tryz.pinned (.plain (OpenSpec.upto grammarParsesSpec)) grammarParsesUptoCard

/-- THE SECOND FORM's CARD OF 'telltalelaw14.GrammarDeep'. -/
def grammarDeepUptoCard : Claim7 := { stood := { row := grammarDeepUptoRow, standIns := [], harness := (true, "a030be6fc3c9ac4ba4f94ad62051750523f5f2b95e5e5f0eb29d4520ddb9485a"), looks := true }, kinds := [], alts := [], laidByText := true, laidKinds := [.handle], laidTests := true, laidLooks := .later }
def GrammarDeepUptoCardSaid : Prop := Claim7.holds Tryz.pinned (.plain (OpenSpec.upto grammarDeepSpec)) grammarDeepUptoCard

/-- THE SECOND FORM's CARD OF 'telltalelaw14.GrammarBack'. -/
def grammarBackUptoCard : Claim7 := { stood := { row := grammarBackUptoRow, standIns := [], harness := (true, "a030be6fc3c9ac4ba4f94ad62051750523f5f2b95e5e5f0eb29d4520ddb9485a"), looks := true }, kinds := [], alts := [], laidByText := true, laidKinds := [.handle], laidTests := true, laidLooks := .later }
def GrammarBackUptoCardSaid : Prop := Claim7.holds Tryz.pinned (.plain (OpenSpec.upto grammarBackSpec)) grammarBackUptoCard

/-- THE SECOND FORM's CARD OF 'telltalelaw14.GrammarEnds'. -/
def grammarEndsUptoCard : Claim7 := { stood := { row := grammarEndsUptoRow, standIns := [], harness := (true, "a030be6fc3c9ac4ba4f94ad62051750523f5f2b95e5e5f0eb29d4520ddb9485a"), looks := true }, kinds := [], alts := [], laidByText := true, laidKinds := [.handle], laidTests := true, laidLooks := .later }
def GrammarEndsUptoCardSaid : Prop := Claim7.holds Tryz.pinned (.plain (OpenSpec.upto grammarEndsSpec)) grammarEndsUptoCard

/-- THE SECOND FORM's CARD OF 'telltalelaw14.GrammarBrackets'. -/
def grammarBracketsUptoCard : Claim7 := { stood := { row := grammarBracketsUptoRow, standIns := [], harness := (true, "a030be6fc3c9ac4ba4f94ad62051750523f5f2b95e5e5f0eb29d4520ddb9485a"), looks := true }, kinds := [], alts := [], laidByText := true, laidKinds := [.handle], laidTests := true, laidLooks := .later }
def GrammarBracketsUptoCardSaid : Prop := Claim7.holds Tryz.pinned (.plain (OpenSpec.upto grammarBracketsSpec)) grammarBracketsUptoCard
end Rows
end Go.Proofs.YtahklhniofiofaaGreatDoor
