/- For all arguments the law ScopeRight returns true, and its arguments read behind the call as they read before. Conditions: none beyond those of the given card. -/
import Derived.Test.YtbioikdfpfafaaaGreatDoorRP1
import Derived.Test.YtbioikdfpfafaaaGreatDoorRG9
import Derived.Test.YtbioikdfpfafaaaGreatDoorRows
import Derived.Test.YtbioikdfpfafaaaGreatDoorCards
import Derived.Test.YtbioikdfpfafaaaGreatDoorTie
import Derived.ChangeSame
import Derived.ChangeVars
import Derived.JoinedOf
import Derived.RowKit
import Derived.RowKitTokens
import Derived.LaidLaws
import Derived.LaidHandle
import Derived.Lay
import Derived.LaidMore
import Derived.SevenTiedAt
import Derived.MakeChecks
import Derived.Handed
set_option linter.all false
set_option linter.unusedSimpArgs false
set_option linter.unusedVariables false
namespace Go.Proofs.YtbioikdfpfafaaaGreatDoor
open Go Go.ChangeShapes Go.WideShapes Go.RowKit Go.Proofs.YtbioikdfpfafaaaGreatDoor.R
def laidL : List (String × DataW Unit) := Rows.scopeRightRow.laid
theorem xZki (N : Nat) (p : xZ6) (types : List xZ2) (choices : List Int) (h : xZ3b N p types choices = some true) : CRes Tryz.prog 6 [.agg [.sl 7 (List.map eA5 p.Body), .v (.int .i64 p.Within), .v (.string (bs p.By)), .v (.int .u8 p.Mode)], .sl 2 (List.map eA3 types), .sl 1 (List.map eA0 choices)] .nil (.ret (.b true)) .nil :=
  (xZaf N).res (p, types, choices, ()) true h
theorem xZic {H : Type} (ds : List (DataW H)) (xs : List AV) (h : DAvV Tryz.prog [24, 25, 45] ds xs) : CRes Tryz.prog 6 xs .nil (.ret (.b true)) .nil := by
  obtain ⟨p, types, choices, rfl, h0, h1, h2⟩ := xZax ds xs h
  obtain ⟨a, ⟨K, hK⟩, rfl⟩ := xZcc p types choices h0 h1 h2
  exact xZki K p types choices (hK K (Nat.le_refl _))
set_option maxRecDepth 100000 in
theorem xZh4 (os : Os) (started : os.Started) (H : Type) (enc : TypeId × Value → H) :
    ReturnsInHanded {} Tryz.checked os 6 .any (fun w args => (Rows.scopeRightSpec.pre enc Tryz.prog Tryz.f6 [] false w args ∧ laidMetH Tryz.prog laidL w) ∧ sizedMet enc Tryz.prog Tryz.f6 (OpenSpec.ofChange Rows.scopeRightSpec) false w args)
      (Rows.scopeRightSpec.post enc Tryz.prog Tryz.f6 false true false false) := by
  refine returnsInHanded_of_change_and (C := Tryz.checked) (X := fun w _ => laidMetH Tryz.prog laidL w) (fun _ _ _ hh h => h.of_heap hh) (by kernel_rfl) started (by kernel_rfl) Tryz.func6
    (ChangeSpec.witness_at (enc := enc) (C := Tryz.checked) (os := os) (X := fun w _ => laidMetH Tryz.prog laidL w) false (World.laidAll Tryz.prog os laidL) #[.agg #[.slice none 0 0, .int .i64 0, .string ⟨#[]⟩, .int .u8 0], .slice none 0 0, .slice none 0 0] 8 (World.laidAll_os _ _ _) (by kernel_rfl) (by kernel_rfl) (by kernel_rfl) (by kernel_rfl) (by kernel_rfl)
      (by rw [MakeChecks.laidMetH_plain _ _ _ (by kernel_rfl)]; exact laidMet_laidAll _ (by kernel_rfl) (by kernel_rfl))) ?_
  intro W base args ds gs before hval0 hW _ _ hL _
  exact xZk8 (ts := [24, 25, 45]) (tb := 4) (by kernel_rfl) (by kernel_rfl) (by kernel_rfl) (by kernel_rfl)
    (fun ds => by
      by_cases h : ds.length = 3
      · left
        match ds, h with
        | [a, b, c], _ => rfl
      · right; exact h) rfl (by
      have : ([24, 25, 45].all fun t => goodT Tryz.prog 40 t) = true := by kernel_rfl
      exact fun t ht => List.all_eq_true.1 this t ht) (by
      have : ([24, 25, 45].all fun t => Tryz.prog.readableRec t && decide (t < Tryz.prog.types.size)) = true := by kernel_rfl
      exact fun t ht => by have := List.all_eq_true.1 this t ht; simpa using this)
    (fun ds xs h => xZic ds xs h) (fun i v h => by rw [show envCell Tryz.prog = none from by kernel_rfl] at h; cases h) hval0 hW
theorem ScopeRight_holds : Rows.ScopeRightSaid :=
  OpenClaim.holds_of_wide 6 Tryz.f6 rfl rfl rfl rfl rfl rfl rfl ⟨rfl, rfl, rfl, rfl, rfl⟩ rfl rfl rfl rfl rfl (by kernel_rfl) Tryz.func6 (by kernel_rfl)
    (of_decide_eq_true (by kernel_rfl)) (by unfold Func.isWrapper; rw [if_neg (of_decide_eq_false (by kernel_rfl))]; exact ⟨rfl, rfl⟩)
    (fun os started H enc _ => xZh4 os started H enc)
theorem ScopeRight_card : Rows.ScopeRightCardSaid :=
  Claim7.holds_tied_plain_at .later [] [.data, .pinned] true (true, "b25f34ab6545b784824107cc5803e83fb69e33063f0dbe9719aeb2ae563e0a4f") true ScopeRight_holds (fun _ h => by cases h) (by kernel_rfl) (fun _ h => by cases h) scopeRight_row_tie rfl ⟨rfl, rfl⟩ (by kernel_rfl) rfl
    (fun f fn hf hfn => by
      obtain rfl : f = 6 := Option.some.inj ((show Tryz.prog.funcNamed Rows.scopeRightRow.func = some 6 by kernel_rfl).symm.trans hf) |>.symm
      obtain rfl : fn = Tryz.f6 := (Option.some.inj (Tryz.func6.symm.trans hfn)).symm
      exact ⟨by kernel_rfl, fun j t ht => by
        rw [Tryz.params6] at ht
        have hm : t ∈ [24, 25, 45] := by simpa using Array.mem_of_getElem? ht
        have hall : ([24, 25, 45].all fun u => !Tryz.prog.wantsStandIn u) = true := by kernel_rfl
        exact (show Tryz.prog.wantsStandIn t = false by simpa using List.all_eq_true.1 hall t hm)⟩)
    (by kernel_rfl)
#print axioms ScopeRight_card
end Go.Proofs.YtbioikdfpfafaaaGreatDoor
