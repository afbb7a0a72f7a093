/- For all arguments the law GateOnce returns true, and its arguments read behind the call as they read before. Conditions: none beyond those of the given card. -/
import Derived.Test.YtfblfapkpieckaaDoorWP1
import Derived.Test.YtfblfapkpieckaaDoorWG1
import Derived.Test.YtfblfapkpieckaaDoorRows
import Derived.Test.YtfblfapkpieckaaDoorCards
import Derived.Test.YtfblfapkpieckaaDoorTie
import Derived.ChangeSame
import Derived.ChangeVars
import Derived.JoinedOf
import Derived.RowKit
import Derived.RowKitTokens
import Derived.LaidLaws
import Derived.Lay
import Derived.LaidMore
import Derived.SevenTiedAt
import Derived.MakeChecks
import Derived.Handed
set_option linter.all false
set_option linter.unusedSimpArgs false
set_option linter.unusedVariables false
namespace Go.Proofs.YtfblfapkpieckaaDoor
open Go Go.ChangeShapes Go.WideShapes Go.RowKit Go.Proofs.YtfblfapkpieckaaDoor.W

def laidL : List (String × DataW Unit) := Rows.gateOnceRow.laid

theorem law_cres (N : Nat) (types : List schema_Type) (sources : Int) (l : List law32_Op) (h : s_law32_GateOnce N types sources l = some true) : CRes Tryd.prog 4 [.sl 2 (List.map eA1 types), .v (.int .i64 sources), .sl 8 (List.map eA8 l)] .nil (.ret (.b true)) .nil :=
  (c_law32_GateOnce N).res (types, sources, l, ()) true h
theorem law_meets {H : Type} (ds : List (DataW H)) (xs : List AV) (h : DAvV Tryd.prog [22, 3, 23] ds xs) : CRes Tryd.prog 4 xs .nil (.ret (.b true)) .nil := by
  obtain ⟨types, sources, l, rfl, h0, h1, h2⟩ := d_law32_GateOnce ds xs h
  obtain ⟨a, ⟨K, hK⟩, rfl⟩ := full_GateOnce types sources l h0 h1 h2
  exact law_cres K types sources l (hK K (Nat.le_refl _))

set_option maxRecDepth 100000 in
theorem law_lifted (os : Os) (started : os.Started) (H : Type) (enc : TypeId × Value → H) :
    ReturnsInHanded {} Tryd.checked os 4 .any (fun w args => (Rows.gateOnceSpec.pre enc Tryd.prog Tryd.f4 [] false w args ∧ laidMetH Tryd.prog laidL w) ∧ sizedMet enc Tryd.prog Tryd.f4 (OpenSpec.ofChange Rows.gateOnceSpec) false w args)
      (Rows.gateOnceSpec.post enc Tryd.prog Tryd.f4 false true false false) := by
  refine returnsInHanded_of_change_and (C := Tryd.checked) (X := fun w _ => laidMetH Tryd.prog laidL w) (fun _ _ _ hh h => h.of_heap hh) (by kernel_rfl) started (by kernel_rfl) Tryd.func4
    (ChangeSpec.witness_at (enc := enc) (C := Tryd.checked) (os := os) (X := fun w _ => laidMetH Tryd.prog laidL w) false (World.laidAll Tryd.prog os laidL) #[.slice none 0 0, .int .i64 0, .slice none 0 0] 8 (World.laidAll_os _ _ _) (by kernel_rfl) (by kernel_rfl) (by kernel_rfl) (by kernel_rfl) (by kernel_rfl)
      (by rw [MakeChecks.laidMetH_plain _ _ _ (by kernel_rfl)]; exact laidMet_laidAll _ (by kernel_rfl) (by kernel_rfl))) ?_
  intro W base args ds gs before hval0 hW _ _ hL _
  exact law_post (ts := [22, 3, 23]) (tb := 4) (by kernel_rfl) (by kernel_rfl) (by kernel_rfl) (by kernel_rfl)
    (fun ds => by
      by_cases h : ds.length = 3
      · left
        match ds, h with
        | [a, b, c], _ => rfl
      · right; exact h) rfl (by
      have : ([22, 3, 23].all fun t => goodT Tryd.prog 40 t) = true := by kernel_rfl
      exact fun t ht => List.all_eq_true.1 this t ht) (by
      have : ([22, 3, 23].all fun t => Tryd.prog.readableRec t && decide (t < Tryd.prog.types.size)) = true := by kernel_rfl
      exact fun t ht => by have := List.all_eq_true.1 this t ht; simpa using this)
    (fun ds xs h => law_meets ds xs h) hval0 hW

theorem GateOnce_holds : Rows.GateOnceSaid :=
  OpenClaim.holds_of_wide 4 Tryd.f4 rfl rfl rfl rfl rfl rfl rfl ⟨rfl, rfl, rfl, rfl, rfl⟩ rfl rfl rfl rfl rfl (by kernel_rfl) Tryd.func4 (by kernel_rfl)
    (of_decide_eq_true (by kernel_rfl)) (by unfold Func.isWrapper; rw [if_neg (of_decide_eq_false (by kernel_rfl))]; exact ⟨rfl, rfl⟩)
    (fun os started H enc _ => law_lifted os started H enc)

/-- The card. -/
theorem GateOnce_card : Rows.GateOnceCardSaid :=
  Claim7.holds_tied_plain_at .later [] [.data, .pinned] true (true, "3e1c484b475848fb785564553c8f2c6fd0d81ca0dee5c2db4dbc0fb292d69396") true GateOnce_holds (fun _ h => by cases h) (by kernel_rfl) (fun _ h => by cases h) gateOnce_row_tie rfl ⟨rfl, rfl⟩ (by kernel_rfl) rfl
    (fun f fn hf hfn => by
      obtain rfl : f = 4 := Option.some.inj ((show Tryd.prog.funcNamed Rows.gateOnceRow.func = some 4 by kernel_rfl).symm.trans hf) |>.symm
      obtain rfl : fn = Tryd.f4 := (Option.some.inj (Tryd.func4.symm.trans hfn)).symm
      exact ⟨by kernel_rfl, fun j t ht => by
        rw [Tryd.params4] at ht
        have hm : t ∈ [22, 3, 23] := by simpa using Array.mem_of_getElem? ht
        have hall : ([22, 3, 23].all fun u => !Tryd.prog.wantsStandIn u) = true := by kernel_rfl
        exact (show Tryd.prog.wantsStandIn t = false by simpa using List.all_eq_true.1 hall t hm)⟩)
    (by kernel_rfl)
#print axioms GateOnce_card
end Go.Proofs.YtfblfapkpieckaaDoor
