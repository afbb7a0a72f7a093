/- For all arguments the law SchemaBack returns true, and its arguments read behind the call as they read before. Conditions: none beyond those of the given card. -/
import Derived.Test.YtabploamljmibaaDoorWP1
import Derived.Test.YtabploamljmibaaDoorWG1
import Derived.Test.YtabploamljmibaaDoorRows
import Derived.Test.YtabploamljmibaaDoorCards
import Derived.Test.YtabploamljmibaaDoorTie
import Derived.ChangeSame
import Derived.ChangeVars
import Derived.JoinedOf
import Derived.RowKit
import Derived.RowKitTokens
import Derived.LaidLaws
import Derived.Lay
import Derived.LaidMore
import Derived.SevenTiedAt
import Derived.MakeChecks
import Derived.Handed
set_option linter.all false
set_option linter.unusedSimpArgs false
set_option linter.unusedVariables false
namespace Go.Proofs.YtabploamljmibaaDoor
open Go Go.ChangeShapes Go.WideShapes Go.RowKit Go.Proofs.YtabploamljmibaaDoor.W

def laidL : List (String × DataW Unit) := Rows.schemaBackRow.laid

theorem law_cres (N : Nat) (l : List schema_Type) (s : List UInt8) (h : s_law06_SchemaBack N l s = some true) : CRes Tryd.prog 5 [.sl 2 (List.map eA1 l), .v (.string (bs s))] .nil (.ret (.b true)) .nil :=
  (c_law06_SchemaBack N).res (l, s, ()) true h
theorem law_meets {H : Type} (ds : List (DataW H)) (xs : List AV) (h : DAvV Tryd.prog [27, 9] ds xs) : CRes Tryd.prog 5 xs .nil (.ret (.b true)) .nil := by
  obtain ⟨l, s, rfl, h0, h1⟩ := d_law06_SchemaBack ds xs h
  obtain ⟨a, ⟨K, hK⟩, rfl⟩ := full_SchemaBack l s h0 h1
  exact law_cres K l s (hK K (Nat.le_refl _))

set_option maxRecDepth 100000 in
theorem law_lifted (os : Os) (started : os.Started) (H : Type) (enc : TypeId × Value → H) :
    ReturnsInHanded {} Tryd.checked os 5 .any (fun w args => (Rows.schemaBackSpec.pre enc Tryd.prog Tryd.f5 [] false w args ∧ laidMetH Tryd.prog laidL w) ∧ sizedMet enc Tryd.prog Tryd.f5 (OpenSpec.ofChange Rows.schemaBackSpec) false w args)
      (Rows.schemaBackSpec.post enc Tryd.prog Tryd.f5 false true false false) := by
  refine returnsInHanded_of_change_and (C := Tryd.checked) (X := fun w _ => laidMetH Tryd.prog laidL w) (fun _ _ _ hh h => h.of_heap hh) (by kernel_rfl) started (by kernel_rfl) Tryd.func5
    (ChangeSpec.witness_at (enc := enc) (C := Tryd.checked) (os := os) (X := fun w _ => laidMetH Tryd.prog laidL w) false (World.laidAll Tryd.prog os laidL) #[.slice none 0 0, .string ⟨#[]⟩] 8 (World.laidAll_os _ _ _) (by kernel_rfl) (by kernel_rfl) (by kernel_rfl) (by kernel_rfl) (by kernel_rfl)
      (by rw [MakeChecks.laidMetH_plain _ _ _ (by kernel_rfl)]; exact laidMet_laidAll _ (by kernel_rfl) (by kernel_rfl))) ?_
  intro W base args ds gs before hval0 hW _ _ hL _
  exact law_post (ts := [27, 9]) (tb := 4) (by kernel_rfl) (by kernel_rfl) (by kernel_rfl) (by kernel_rfl)
    (fun ds => by
      by_cases h : ds.length = 2
      · left
        match ds, h with
        | [a, b], _ => rfl
      · right; exact h) rfl (by
      have : ([27, 9].all fun t => goodT Tryd.prog 40 t) = true := by kernel_rfl
      exact fun t ht => List.all_eq_true.1 this t ht) (by
      have : ([27, 9].all fun t => Tryd.prog.readableRec t && decide (t < Tryd.prog.types.size)) = true := by kernel_rfl
      exact fun t ht => by have := List.all_eq_true.1 this t ht; simpa using this)
    (fun ds xs h => law_meets ds xs h) hval0 hW

theorem SchemaBack_holds : Rows.SchemaBackSaid :=
  OpenClaim.holds_of_wide 5 Tryd.f5 rfl rfl rfl rfl rfl rfl rfl ⟨rfl, rfl, rfl, rfl, rfl⟩ rfl rfl rfl rfl rfl (by kernel_rfl) Tryd.func5 (by kernel_rfl)
    (of_decide_eq_true (by kernel_rfl)) (by unfold Func.isWrapper; rw [if_neg (of_decide_eq_false (by kernel_rfl))]; exact ⟨rfl, rfl⟩)
    (fun os started H enc _ => law_lifted os started H enc)

/-- The card. -/
theorem SchemaBack_card : Rows.SchemaBackCardSaid :=
  Claim7.holds_tied_plain_at .later [] [.data, .pinned] true (true, "36a1ae9fa675b26a3e09d4918478451bd9fe33a54fe5fe66f9a9c082626aac9f") true SchemaBack_holds (fun _ h => by cases h) (by kernel_rfl) (fun _ h => by cases h) schemaBack_row_tie rfl ⟨rfl, rfl⟩ (by kernel_rfl) rfl
    (fun f fn hf hfn => by
      obtain rfl : f = 5 := Option.some.inj ((show Tryd.prog.funcNamed Rows.schemaBackRow.func = some 5 by kernel_rfl).symm.trans hf) |>.symm
      obtain rfl : fn = Tryd.f5 := (Option.some.inj (Tryd.func5.symm.trans hfn)).symm
      exact ⟨by kernel_rfl, fun j t ht => by
        rw [Tryd.params5] at ht
        have hm : t ∈ [27, 9] := by simpa using Array.mem_of_getElem? ht
        have hall : ([27, 9].all fun u => !Tryd.prog.wantsStandIn u) = true := by kernel_rfl
        exact (show Tryd.prog.wantsStandIn t = false by simpa using List.all_eq_true.1 hall t hm)⟩)
    (by kernel_rfl)
#print axioms SchemaBack_card
end Go.Proofs.YtabploamljmibaaDoor
