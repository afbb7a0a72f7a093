/- For all arguments the law ScopeSure returns true, and its arguments read behind the call as they read before. Conditions: none beyond those of the given card. -/
import Derived.Test.YtbioikdfpfafaaaGreatDoorWP1
import Derived.Test.YtbioikdfpfafaaaGreatDoorWG8
import Derived.Test.YtbioikdfpfafaaaGreatDoorRows
import Derived.Test.YtbioikdfpfafaaaGreatDoorCards
import Derived.Test.YtbioikdfpfafaaaGreatDoorTie
import Derived.ChangeSame
import Derived.ChangeVars
import Derived.JoinedOf
import Derived.RowKit
import Derived.RowKitTokens
import Derived.LaidLaws
import Derived.LaidHandle
import Derived.Lay
import Derived.LaidMore
import Derived.SevenTiedAt
import Derived.MakeChecks
import Derived.Handed
set_option linter.all false
set_option linter.unusedSimpArgs false
set_option linter.unusedVariables false
namespace Go.Proofs.YtbioikdfpfafaaaGreatDoor
open Go Go.ChangeShapes Go.WideShapes Go.RowKit Go.Proofs.YtbioikdfpfafaaaGreatDoor.W
def laidL : List (String × DataW Unit) := Rows.scopeSureRow.laid
theorem law_cres (N : Nat) (p : shape_Pattern) (choices : List Int) (h : s_law15_ScopeSure N p choices = some true) : CRes Tryz.prog 5 [.agg [.sl 7 (List.map eA5 p.Body), .v (.int .i64 p.Within), .v (.string (bs p.By)), .v (.int .u8 p.Mode)], .sl 1 (List.map eA0 choices)] .nil (.ret (.b true)) .nil :=
  (c_law15_ScopeSure N).res (p, choices, ()) true h
theorem law_meets {H : Type} (ds : List (DataW H)) (xs : List AV) (h : DAvV Tryz.prog [24, 45] ds xs) : CRes Tryz.prog 5 xs .nil (.ret (.b true)) .nil := by
  obtain ⟨p, choices, rfl, h0, h1⟩ := d_law15_ScopeSure ds xs h
  obtain ⟨a, ⟨K, hK⟩, rfl⟩ := full_ScopeSure p choices h0 h1
  exact law_cres K p choices (hK K (Nat.le_refl _))
set_option maxRecDepth 100000 in
theorem law_lifted (os : Os) (started : os.Started) (H : Type) (enc : TypeId × Value → H) :
    ReturnsInHanded {} Tryz.checked os 5 .any (fun w args => (Rows.scopeSureSpec.pre enc Tryz.prog Tryz.f5 [] false w args ∧ laidMetH Tryz.prog laidL w) ∧ sizedMet enc Tryz.prog Tryz.f5 (OpenSpec.ofChange Rows.scopeSureSpec) false w args)
      (Rows.scopeSureSpec.post enc Tryz.prog Tryz.f5 false true false false) := by
  refine returnsInHanded_of_change_and (C := Tryz.checked) (X := fun w _ => laidMetH Tryz.prog laidL w) (fun _ _ _ hh h => h.of_heap hh) (by kernel_rfl) started (by kernel_rfl) Tryz.func5
    (ChangeSpec.witness_at (enc := enc) (C := Tryz.checked) (os := os) (X := fun w _ => laidMetH Tryz.prog laidL w) false (World.laidAll Tryz.prog os laidL) #[.agg #[.slice none 0 0, .int .i64 0, .string ⟨#[]⟩, .int .u8 0], .slice none 0 0] 8 (World.laidAll_os _ _ _) (by kernel_rfl) (by kernel_rfl) (by kernel_rfl) (by kernel_rfl) (by kernel_rfl)
      (by rw [MakeChecks.laidMetH_plain _ _ _ (by kernel_rfl)]; exact laidMet_laidAll _ (by kernel_rfl) (by kernel_rfl))) ?_
  intro W base args ds gs before hval0 hW _ _ hL _
  exact law_post (ts := [24, 45]) (tb := 4) (by kernel_rfl) (by kernel_rfl) (by kernel_rfl) (by kernel_rfl)
    (fun ds => by
      by_cases h : ds.length = 2
      · left
        match ds, h with
        | [a, b], _ => rfl
      · right; exact h) rfl (by
      have : ([24, 45].all fun t => goodT Tryz.prog 40 t) = true := by kernel_rfl
      exact fun t ht => List.all_eq_true.1 this t ht) (by
      have : ([24, 45].all fun t => Tryz.prog.readableRec t && decide (t < Tryz.prog.types.size)) = true := by kernel_rfl
      exact fun t ht => by have := List.all_eq_true.1 this t ht; simpa using this)
    (fun ds xs h => law_meets ds xs h) (fun i v h => by rw [show envCell Tryz.prog = none from by kernel_rfl] at h; cases h) hval0 hW
theorem ScopeSure_holds : Rows.ScopeSureSaid :=
  OpenClaim.holds_of_wide 5 Tryz.f5 rfl rfl rfl rfl rfl rfl rfl ⟨rfl, rfl, rfl, rfl, rfl⟩ rfl rfl rfl rfl rfl (by kernel_rfl) Tryz.func5 (by kernel_rfl)
    (of_decide_eq_true (by kernel_rfl)) (by unfold Func.isWrapper; rw [if_neg (of_decide_eq_false (by kernel_rfl))]; exact ⟨rfl, rfl⟩)
    (fun os started H enc _ => law_lifted os started H enc)
/-- The card. -/
theorem ScopeSure_card : Rows.ScopeSureCardSaid :=
  Claim7.holds_tied_plain_at .later [] [.data, .pinned] true (true, "b25f34ab6545b784824107cc5803e83fb69e33063f0dbe9719aeb2ae563e0a4f") true ScopeSure_holds (fun _ h => by cases h) (by kernel_rfl) (fun _ h => by cases h) scopeSure_row_tie rfl ⟨rfl, rfl⟩ (by kernel_rfl) rfl
    (fun f fn hf hfn => by
      obtain rfl : f = 5 := Option.some.inj ((show Tryz.prog.funcNamed Rows.scopeSureRow.func = some 5 by kernel_rfl).symm.trans hf) |>.symm
      obtain rfl : fn = Tryz.f5 := (Option.some.inj (Tryz.func5.symm.trans hfn)).symm
      exact ⟨by kernel_rfl, fun j t ht => by
        rw [Tryz.params5] at ht
        have hm : t ∈ [24, 45] := by simpa using Array.mem_of_getElem? ht
        have hall : ([24, 45].all fun u => !Tryz.prog.wantsStandIn u) = true := by kernel_rfl
        exact (show Tryz.prog.wantsStandIn t = false by simpa using List.all_eq_true.1 hall t hm)⟩)
    (by kernel_rfl)
#print axioms ScopeSure_card
end Go.Proofs.YtbioikdfpfafaaaGreatDoor
