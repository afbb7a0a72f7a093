/-
  DERIVED. GIVEN WITH THE SEED: THE CARDS: each row of YtbioikdfpfafaaaGreatDoorRows.lean that lists a variable, with what it lists TIED to the program's text (the seventh form; the later family's looks); each row that meets fmt, with fmt's text TOLD by the authors' own Lean function (tested against real Go, not proved from fmt's source: count such statements apart). THE CARD IS WHAT COUNTS. Prove the row's statement (the work); the ties are given (YtbioikdfpfafaaaGreatDoorTie.lean); close each card by the builder's one call (the guide's Derived/Test/ToyasCard.lean, 'card_holds'). Laid BY PROGRAM, IN A SANDBOX (cutbox-door.mjs). By AI agents, Wed Nov 11 2026. No macro, syntax, notation, axiom, sorry.
-/
import Derived.Test.YtbioikdfpfafaaaGreatDoorRows
import GoSem.ClaimSeven
namespace Go.Proofs.YtbioikdfpfafaaaGreatDoor
namespace Rows

/-- THE TIED CARD OF 'telltalelaw15.ScopeTells'. -/
def scopeTellsCard : Claim7 := { stood := { row := scopeTellsRow, standIns := [], harness := (true, "b25f34ab6545b784824107cc5803e83fb69e33063f0dbe9719aeb2ae563e0a4f"), looks := true }, kinds := [], alts := [], laidByText := true, laidKinds := [.data, .pinned], laidTests := true, laidLooks := .later }
def ScopeTellsCardSaid : Prop := Claim7.holds Tryz.pinned (.plain (OpenSpec.ofChange scopeTellsSpec)) scopeTellsCard

/-- THE TIED CARD OF 'telltalelaw15.ScopeWalks'. -/
def scopeWalksCard : Claim7 := { stood := { row := scopeWalksRow, standIns := [], harness := (true, "b25f34ab6545b784824107cc5803e83fb69e33063f0dbe9719aeb2ae563e0a4f"), looks := true }, kinds := [], alts := [], laidByText := true, laidKinds := [.data, .pinned], laidTests := true, laidLooks := .later }
def ScopeWalksCardSaid : Prop := Claim7.holds Tryz.pinned (.plain (OpenSpec.ofChange scopeWalksSpec)) scopeWalksCard

/-- THE TIED CARD OF 'telltalelaw15.ScopeSure'. -/
def scopeSureCard : Claim7 := { stood := { row := scopeSureRow, standIns := [], harness := (true, "b25f34ab6545b784824107cc5803e83fb69e33063f0dbe9719aeb2ae563e0a4f"), looks := true }, kinds := [], alts := [], laidByText := true, laidKinds := [.data, .pinned], laidTests := true, laidLooks := .later }
def ScopeSureCardSaid : Prop := Claim7.holds Tryz.pinned (.plain (OpenSpec.ofChange scopeSureSpec)) scopeSureCard

/-- THE TIED CARD OF 'telltalelaw15.ScopeRight'. -/
def scopeRightCard : Claim7 := { stood := { row := scopeRightRow, standIns := [], harness := (true, "b25f34ab6545b784824107cc5803e83fb69e33063f0dbe9719aeb2ae563e0a4f"), looks := true }, kinds := [], alts := [], laidByText := true, laidKinds := [.data, .pinned], laidTests := true, laidLooks := .later }
def ScopeRightCardSaid : Prop := Claim7.holds Tryz.pinned (.plain (OpenSpec.ofChange scopeRightSpec)) scopeRightCard

/-- THE SECOND FORM's CARD OF 'telltalelaw15.ScopeTells'. -/
def scopeTellsUptoCard : Claim7 := { stood := { row := scopeTellsUptoRow, standIns := [], harness := (true, "b25f34ab6545b784824107cc5803e83fb69e33063f0dbe9719aeb2ae563e0a4f"), looks := true }, kinds := [], alts := [], laidByText := true, laidKinds := [.data, .pinned], laidTests := true, laidLooks := .later }
def ScopeTellsUptoCardSaid : Prop := Claim7.holds Tryz.pinned (.plain (OpenSpec.upto scopeTellsSpec)) scopeTellsUptoCard

/-- THE SECOND FORM's CARD OF 'telltalelaw15.ScopeWalks'. -/
def scopeWalksUptoCard : Claim7 := { stood := { row := scopeWalksUptoRow, standIns := [], harness := (true, "b25f34ab6545b784824107cc5803e83fb69e33063f0dbe9719aeb2ae563e0a4f"), looks := true }, kinds := [], alts := [], laidByText := true, laidKinds := [.data, .pinned], laidTests := true, laidLooks := .later }
def ScopeWalksUptoCardSaid : Prop := Claim7.holds Tryz.pinned (.plain (OpenSpec.upto scopeWalksSpec)) scopeWalksUptoCard

/-- THE SECOND FORM's CARD OF 'telltalelaw15.ScopeSure'. -/
def scopeSureUptoCard : Claim7 := { stood := { row := scopeSureUptoRow, standIns := [], harness := (true, "b25f34ab6545b784824107cc5803e83fb69e33063f0dbe9719aeb2ae563e0a4f"), looks := true }, kinds := [], alts := [], laidByText := true, laidKinds := [.data, .pinned], laidTests := true, laidLooks := .later }
def ScopeSureUptoCardSaid : Prop := Claim7.holds Tryz.pinned (.plain (OpenSpec.upto scopeSureSpec)) scopeSureUptoCard

/-- THE SECOND FORM's CARD OF 'telltalelaw15.ScopeRight'. -/
def scopeRightUptoCard : Claim7 := { stood := { row := scopeRightUptoRow, standIns := [], harness := (true, "b25f34ab6545b784824107cc5803e83fb69e33063f0dbe9719aeb2ae563e0a4f"), looks := true }, kinds := [], alts := [], laidByText := true, laidKinds := [.data, .pinned], laidTests := true, laidLooks := .later }
def ScopeRightUptoCardSaid : Prop := Claim7.holds Tryz.pinned (.plain (OpenSpec.upto scopeRightSpec)) scopeRightUptoCard
end Rows
end Go.Proofs.YtbioikdfpfafaaaGreatDoor
