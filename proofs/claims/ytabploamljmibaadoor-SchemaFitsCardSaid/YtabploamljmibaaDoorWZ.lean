/- For all arguments the law SchemaFits returns true, and its arguments read behind the call as they read before. Conditions: none beyond those of the given card. -/
import Derived.Test.YtabploamljmibaaDoorWP1
import Derived.Test.YtabploamljmibaaDoorWG1
import Derived.Test.YtabploamljmibaaDoorRows
import Derived.Test.YtabploamljmibaaDoorCards
import Derived.Test.YtabploamljmibaaDoorTie
import Derived.ChangeSame
import Derived.ChangeVars
import Derived.JoinedOf
import Derived.RowKit
import Derived.RowKitTokens
import Derived.LaidLaws
import Derived.Lay
import Derived.LaidMore
import Derived.SevenTiedAt
import Derived.MakeChecks
import Derived.Handed
set_option linter.all false
set_option linter.unusedSimpArgs false
set_option linter.unusedVariables false
namespace Go.Proofs.YtabploamljmibaaDoor
open Go Go.ChangeShapes Go.WideShapes Go.RowKit Go.Proofs.YtabploamljmibaaDoor.W

def laidL : List (String × DataW Unit) := Rows.schemaFitsRow.laid

theorem law_cres (N : Nat) (t : schema_Type) (l : List value_Value) (h : s_law06_SchemaFits N t l = some true) : CRes Tryd.prog 3 [.agg [.v (.string (bs t.Name)), .sl 2 (List.map eA0 t.Fields)], .sl 4 (List.map eA3 l)] .nil (.ret (.b true)) .nil :=
  (c_law06_SchemaFits N).res (t, l, ()) true h
theorem law_meets {H : Type} (ds : List (DataW H)) (xs : List AV) (h : DAvV Tryd.prog [24, 25] ds xs) : CRes Tryd.prog 3 xs .nil (.ret (.b true)) .nil := by
  obtain ⟨t, l, rfl, h0, h1⟩ := d_law06_SchemaFits ds xs h
  obtain ⟨a, ⟨K, hK⟩, rfl⟩ := full_SchemaFits t l h0 h1
  exact law_cres K t l (hK K (Nat.le_refl _))

set_option maxRecDepth 100000 in
theorem law_lifted (os : Os) (started : os.Started) (H : Type) (enc : TypeId × Value → H) :
    ReturnsInHanded {} Tryd.checked os 3 .any (fun w args => (Rows.schemaFitsSpec.pre enc Tryd.prog Tryd.f3 [] false w args ∧ laidMetH Tryd.prog laidL w) ∧ sizedMet enc Tryd.prog Tryd.f3 (OpenSpec.ofChange Rows.schemaFitsSpec) false w args)
      (Rows.schemaFitsSpec.post enc Tryd.prog Tryd.f3 false true false false) := by
  refine returnsInHanded_of_change_and (C := Tryd.checked) (X := fun w _ => laidMetH Tryd.prog laidL w) (fun _ _ _ hh h => h.of_heap hh) (by kernel_rfl) started (by kernel_rfl) Tryd.func3
    (ChangeSpec.witness_at (enc := enc) (C := Tryd.checked) (os := os) (X := fun w _ => laidMetH Tryd.prog laidL w) false (World.laidAll Tryd.prog os laidL) #[.agg #[.string ⟨#[]⟩, .slice none 0 0], .slice none 0 0] 8 (World.laidAll_os _ _ _) (by kernel_rfl) (by kernel_rfl) (by kernel_rfl) (by kernel_rfl) (by kernel_rfl)
      (by rw [MakeChecks.laidMetH_plain _ _ _ (by kernel_rfl)]; exact laidMet_laidAll _ (by kernel_rfl) (by kernel_rfl))) ?_
  intro W base args ds gs before hval0 hW _ _ hL _
  exact law_post (ts := [24, 25]) (tb := 4) (by kernel_rfl) (by kernel_rfl) (by kernel_rfl) (by kernel_rfl)
    (fun ds => by
      by_cases h : ds.length = 2
      · left
        match ds, h with
        | [a, b], _ => rfl
      · right; exact h) rfl (by
      have : ([24, 25].all fun t => goodT Tryd.prog 40 t) = true := by kernel_rfl
      exact fun t ht => List.all_eq_true.1 this t ht) (by
      have : ([24, 25].all fun t => Tryd.prog.readableRec t && decide (t < Tryd.prog.types.size)) = true := by kernel_rfl
      exact fun t ht => by have := List.all_eq_true.1 this t ht; simpa using this)
    (fun ds xs h => law_meets ds xs h) hval0 hW

theorem SchemaFits_holds : Rows.SchemaFitsSaid :=
  OpenClaim.holds_of_wide 3 Tryd.f3 rfl rfl rfl rfl rfl rfl rfl ⟨rfl, rfl, rfl, rfl, rfl⟩ rfl rfl rfl rfl rfl (by kernel_rfl) Tryd.func3 (by kernel_rfl)
    (of_decide_eq_true (by kernel_rfl)) (by unfold Func.isWrapper; rw [if_neg (of_decide_eq_false (by kernel_rfl))]; exact ⟨rfl, rfl⟩)
    (fun os started H enc _ => law_lifted os started H enc)

/-- The card. -/
theorem SchemaFits_card : Rows.SchemaFitsCardSaid :=
  Claim7.holds_tied_plain_at .later [] [.data, .pinned] true (true, "36a1ae9fa675b26a3e09d4918478451bd9fe33a54fe5fe66f9a9c082626aac9f") true SchemaFits_holds (fun _ h => by cases h) (by kernel_rfl) (fun _ h => by cases h) schemaFits_row_tie rfl ⟨rfl, rfl⟩ (by kernel_rfl) rfl
    (fun f fn hf hfn => by
      obtain rfl : f = 3 := Option.some.inj ((show Tryd.prog.funcNamed Rows.schemaFitsRow.func = some 3 by kernel_rfl).symm.trans hf) |>.symm
      obtain rfl : fn = Tryd.f3 := (Option.some.inj (Tryd.func3.symm.trans hfn)).symm
      exact ⟨by kernel_rfl, fun j t ht => by
        rw [Tryd.params3] at ht
        have hm : t ∈ [24, 25] := by simpa using Array.mem_of_getElem? ht
        have hall : ([24, 25].all fun u => !Tryd.prog.wantsStandIn u) = true := by kernel_rfl
        exact (show Tryd.prog.wantsStandIn t = false by simpa using List.all_eq_true.1 hall t hm)⟩)
    (by kernel_rfl)
#print axioms SchemaFits_card
end Go.Proofs.YtabploamljmibaaDoor
