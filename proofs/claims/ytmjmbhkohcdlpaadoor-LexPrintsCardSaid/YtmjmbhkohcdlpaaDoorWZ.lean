/- For all arguments the law LexPrints returns true, and its arguments read behind the call as they read before. Conditions: none beyond those of the given card. -/
import Derived.Test.YtmjmbhkohcdlpaaDoorWP1
import Derived.Test.YtmjmbhkohcdlpaaDoorWG1
import Derived.Test.YtmjmbhkohcdlpaaDoorRows
import Derived.Test.YtmjmbhkohcdlpaaDoorCards
import Derived.Test.YtmjmbhkohcdlpaaDoorTie
import Derived.ChangeSame
import Derived.ChangeVars
import Derived.JoinedOf
import Derived.RowKit
import Derived.RowKitTokens
import Derived.LaidLaws
import Derived.LaidHandle
import Derived.Lay
import Derived.LaidMore
import Derived.SevenTiedAt
import Derived.MakeChecks
import Derived.Handed
set_option linter.all false
set_option linter.unusedSimpArgs false
set_option linter.unusedVariables false
namespace Go.Proofs.YtmjmbhkohcdlpaaDoor
open Go Go.ChangeShapes Go.WideShapes Go.RowKit Go.Proofs.YtmjmbhkohcdlpaaDoor.W

def laidL : List (String × DataW Unit) := Rows.lexPrintsRow.laid
theorem t_et : Tryd.prog.globalNamed "errors.errorType" = some 0 := by kernel_rfl
theorem t_rt : (Tryd.prog.cutTypes.find? (·.1 == "internal/reflectlite.rtype")).map (·.2) = some 129 := by kernel_rfl
theorem t_oneRow : ((List.range 174).filter fun t => Tryd.prog.rowNamed t [101, 114, 114, 111, 114]) = [33] := by kernel_rfl
theorem t_size : Tryd.prog.types.size = 174 := by kernel_rfl
theorem handle_of_laid (W : World) (h : laidMetH Tryd.prog laidL W) : W.cell? ⟨0, 0, none⟩ = some (.iface 129 (.agg #[.pointer (some ⟨3, 33, none⟩)])) := by
  have h' : laidMet Tryd.prog [] W ∧ handlesMet Tryd.prog laidL W := h
  obtain ⟨name, u, ty, e1, e2, e3, e4, e5⟩ := h'.2 _ (List.mem_singleton.2 rfl)
  have en : name = [101, 114, 114, 111, 114] := (Option.some.inj e1).symm
  subst en
  obtain rfl := Option.some.inj (t_rt.symm.trans e2)
  have hm : ty ∈ (List.range 174).filter fun t => Tryd.prog.rowNamed t [101, 114, 114, 111, 114] := List.mem_filter.2 ⟨List.mem_range.2 (by rw [← t_size]; exact e3), e4⟩
  rw [t_oneRow] at hm
  obtain rfl := List.mem_singleton.1 hm
  have hh : typeHandle Tryd.prog 33 = .pointer (some ⟨3, 33, none⟩) := by kernel_rfl
  rw [hh] at e5
  simpa using World.var?_cell t_et e5 0
theorem env_of_laid (W : World) (h : laidMetH Tryd.prog laidL W) (i : Nat) (v : Value) (hi : envCell Tryd.prog = some (i, v)) : W.cell? ⟨i, 0, none⟩ = some v ∧ i < W.heap.size := by
  have hc := handle_of_laid W h
  rw [show envCell Tryd.prog = some (0, .iface 129 (.agg #[.pointer (some ⟨3, 33, none⟩)])) from by kernel_rfl] at hi
  cases hi
  refine ⟨hc, ?_⟩
  rcases Nat.lt_or_ge 0 W.heap.size with h | h
  · exact h
  · simp [World.cell?, Array.getElem?_eq_none h] at hc
noncomputable def laidW (os : Os) : World :=
  let w0 := World.holding Tryd.prog os ⟨#[], #[], []⟩
  { w0 with heap := w0.heap.modify 0 fun
      | .cells _ t frozen => .cells #[.iface 129 (.agg #[.pointer (some ⟨3, 33, none⟩)])] t frozen
      | o => o }
theorem laidW_met (os : Os) (args : Array Value) : laidMetH Tryd.prog laidL ((laidW os).forCall (fun _ _ => 0) ⟨#[], args, []⟩).memory :=
  laidMetH_of_parts (laidMet_nil _ _) (by kernel_rfl)

theorem law_cres (N : Nat) (l : anon_42) (v : value_Value) (h : s_law10_LexPrints N l v = some true) : CRes Tryd.prog 4 [.agg [.sl 7 (List.map eA1 l.i0), .sl 7 (List.map eA1 l.i1)], .agg [.v (.int .u8 v.Kind), .v (.int .i64 v.N), .v (.int .u64 v.Bits), .v (.string (bs v.Text))]] .nil (.ret (.b true)) .nil :=
  (c_law10_LexPrints N).res (l, v, ()) true h
theorem law_meets {H : Type} (ds : List (DataW H)) (xs : List AV) (h : DAvV Tryd.prog [42, 24] ds xs) : CRes Tryd.prog 4 xs .nil (.ret (.b true)) .nil := by
  obtain ⟨l, v, rfl, h0, h1⟩ := d_law10_LexPrints ds xs h
  obtain ⟨a, ⟨K, hK⟩, rfl⟩ := full_LexPrints l v h0 h1
  exact law_cres K l v (hK K (Nat.le_refl _))

set_option maxRecDepth 100000 in
theorem law_lifted (os : Os) (started : os.Started) (H : Type) (enc : TypeId × Value → H) :
    ReturnsInHanded {} Tryd.checked os 4 .any (fun w args => (Rows.lexPrintsSpec.pre enc Tryd.prog Tryd.f4 [] false w args ∧ laidMetH Tryd.prog laidL w) ∧ sizedMet enc Tryd.prog Tryd.f4 (OpenSpec.ofChange Rows.lexPrintsSpec) false w args)
      (Rows.lexPrintsSpec.post enc Tryd.prog Tryd.f4 false true false false) := by
  refine returnsInHanded_of_change_and (C := Tryd.checked) (X := fun w _ => laidMetH Tryd.prog laidL w) (fun _ _ _ hh h => h.of_heap hh) (by kernel_rfl) started (by kernel_rfl) Tryd.func4
    (ChangeSpec.witness_at (enc := enc) (C := Tryd.checked) (os := os) (X := fun w _ => laidMetH Tryd.prog laidL w) false (laidW os) #[.agg #[.slice none 0 0, .slice none 0 0], .agg #[.int .u8 0, .int .i64 0, .int .u64 0, .string ⟨#[]⟩]] 8 rfl (by kernel_rfl) (by kernel_rfl) (by kernel_rfl) (by kernel_rfl) (by kernel_rfl)
      (laidW_met os _)) ?_
  intro W base args ds gs before hval0 hW _ _ hL _
  exact law_post (ts := [42, 24]) (tb := 4) (by kernel_rfl) (by kernel_rfl) (by kernel_rfl) (by kernel_rfl)
    (fun ds => by
      by_cases h : ds.length = 2
      · left
        match ds, h with
        | [a, b], _ => rfl
      · right; exact h) rfl (by
      have : ([42, 24].all fun t => goodT Tryd.prog 40 t) = true := by kernel_rfl
      exact fun t ht => List.all_eq_true.1 this t ht) (by
      have : ([42, 24].all fun t => Tryd.prog.readableRec t && decide (t < Tryd.prog.types.size)) = true := by kernel_rfl
      exact fun t ht => by have := List.all_eq_true.1 this t ht; simpa using this)
    (fun ds xs h => law_meets ds xs h) (env_of_laid W hL) hval0 hW

theorem LexPrints_holds : Rows.LexPrintsSaid :=
  OpenClaim.holds_of_wide 4 Tryd.f4 rfl rfl rfl rfl rfl rfl rfl ⟨rfl, rfl, rfl, rfl, rfl⟩ rfl rfl rfl rfl rfl (by kernel_rfl) Tryd.func4 (by kernel_rfl)
    (of_decide_eq_true (by kernel_rfl)) (by unfold Func.isWrapper; rw [if_neg (of_decide_eq_false (by kernel_rfl))]; exact ⟨rfl, rfl⟩)
    (fun os started H enc _ => law_lifted os started H enc)

/-- The card. -/
theorem LexPrints_card : Rows.LexPrintsCardSaid :=
  Claim7.holds_tied_plain_at .later [] [.handle] true (true, "6a7d591909226ef94e943d515f89c9d4e241049e498133657b494223990cd64c") true LexPrints_holds (fun _ h => by cases h) (by kernel_rfl) (fun _ h => by cases h) lexPrints_row_tie rfl ⟨rfl, rfl⟩ (by kernel_rfl) rfl
    (fun f fn hf hfn => by
      obtain rfl : f = 4 := Option.some.inj ((show Tryd.prog.funcNamed Rows.lexPrintsRow.func = some 4 by kernel_rfl).symm.trans hf) |>.symm
      obtain rfl : fn = Tryd.f4 := (Option.some.inj (Tryd.func4.symm.trans hfn)).symm
      exact ⟨by kernel_rfl, fun j t ht => by
        rw [Tryd.params4] at ht
        have hm : t ∈ [42, 24] := by simpa using Array.mem_of_getElem? ht
        have hall : ([42, 24].all fun u => !Tryd.prog.wantsStandIn u) = true := by kernel_rfl
        exact (show Tryd.prog.wantsStandIn t = false by simpa using List.all_eq_true.1 hall t hm)⟩)
    (by kernel_rfl)
#print axioms LexPrints_card
end Go.Proofs.YtmjmbhkohcdlpaaDoor
