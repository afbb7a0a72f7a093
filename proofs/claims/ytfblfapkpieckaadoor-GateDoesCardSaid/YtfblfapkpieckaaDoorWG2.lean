/- The code, and what each function of it is walked to. No premise beyond what each theorem says. -/
import Derived.Test.YtfblfapkpieckaaDoorWG1
set_option linter.all false
set_option linter.unusedSimpArgs false
set_option linter.unusedVariables false
namespace Go.Proofs.YtfblfapkpieckaaDoor.W
open Go
open Go.Proofs.Tryd
set_option linter.unusedSimpArgs false
set_option linter.unusedVariables false
set_option maxHeartbeats 8000000 in
theorem c_law06_Over (N : Nat) (l : List schema_Type) (r : Int) (hsh : s_law06_Over N l = some r) : CRes prog 5 [.sl 2 (List.map schema_Type.av l)] .nil (.ret (.v (.int .i64 r))) .nil := by
  refine is_law06_Over.run hm 1000 _ rfl fun X hX => ?_
  simp only [List.length_cons, List.length_nil, List.replicate, Nat.reduceAdd, Nat.reduceSub, El, Et]
  rw [s_law06_Over] at hsh
  simp only [Erun, Ek, Ev, El, Ea, Eu, hX.res, hX.Q, List.getElem?_cons_zero, List.getElem?_cons_succ, seval, Et]
  repeat (with_reducible refine And.intro (by first | assumption | omega | (simp only [i64in] at *; omega)) ?_)
  by_cases h1 : (decide ((List.length l : Int) > 12)) = true
  · rw [if_pos h1] at hsh
    simp only [Erun, Ek, Ev, El, Ea, Eu, hX.res, hX.Q, List.getElem?_cons_zero, List.getElem?_cons_succ, seval, Et, h1]
    repeat (with_reducible refine And.intro (by first | assumption | omega | (simp only [i64in] at *; omega)) ?_)
    obtain rfl := Option.some.inj hsh
    refine post_give [] ?_
    simp [El2, El3, El4, Ev, El, Eb, Et, h1]
  · rw [if_neg h1] at hsh; replace h1 := neg_b h1
    simp only [Erun, Ek, Ev, El, Ea, Eu, hX.res, hX.Q, List.getElem?_cons_zero, List.getElem?_cons_succ, seval, Et, h1]
    repeat (with_reducible refine And.intro (by first | assumption | omega | (simp only [i64in] at *; omega)) ?_)
    refine go_lessG hX [] [] [] _ _ (by rfl) (by rfl) (by simp [El2, El3, El4, Ev, El, Eb, Et, h1]) (by simp [El2, El3, El4, Ev, El, Eb, Et, h1]) (by rfl) (by rfl) (by simp [El2, El3, El4, Ev, El, Eb, Et, h1]) (go_loop1 (fun (i : Int) => ([.sl 2 (List.map schema_Type.av l), .any, .any, .v (.int .i64 i)] ++ List.replicate 47 .any)) (fun (i : Int) => ⟨[], []⟩) 1000 (fun next1 ih1 i hsh => ?_) N 0 hsh)
    simp only [List.replicate, El] at ih1 ⊢
    rw [s_law06_Over_1] at hsh
    simp only [Erun, Ek, Ev, El, Ea, Eu, hX.res, hX.Q, List.getElem?_cons_zero, List.getElem?_cons_succ, seval, Et, h1]
    repeat (with_reducible refine And.intro (by first | assumption | omega | (simp only [i64in] at *; omega)) ?_)
    by_cases h2 : (decide (i < (List.length l : Int))) = true
    · rw [if_pos h2] at hsh
      obtain ⟨e, h3x, hsh⟩ := Option.bind_eq_some_iff.1 hsh
      obtain ⟨h3a, h3b, h3c, h3d⟩ := ix_some h3x
      simp only [Erun, Ek, Ev, El, Ea, Eu, hX.res, hX.Q, List.getElem?_cons_zero, List.getElem?_cons_succ, seval, Et, h1, h2, h3a, h3b, h3c, h3d]
      repeat (with_reducible refine And.intro (by first | assumption | omega | (simp only [i64in] at *; omega)) ?_)
      by_cases h4 : (decide ((List.length e.Name : Int) > 40)) = true
      · rw [if_pos h4] at hsh
        simp only [Erun, Ek, Ev, El, Ea, Eu, hX.res, hX.Q, List.getElem?_cons_zero, List.getElem?_cons_succ, seval, Et, h1, h2, h3a, h3b, h3c, h3d, h4]
        repeat (with_reducible refine And.intro (by first | assumption | omega | (simp only [i64in] at *; omega)) ?_)
        obtain rfl := Option.some.inj hsh
        refine post_give [] ?_
        simp [El2, El3, El4, Ev, El, Eb, Et, h1, h2, h3a, h3b, h3c, h3d, h4]
      · rw [if_neg h4] at hsh; replace h4 := neg_b h4
        simp only [Erun, Ek, Ev, El, Ea, Eu, hX.res, hX.Q, List.getElem?_cons_zero, List.getElem?_cons_succ, seval, Et, h1, h2, h3a, h3b, h3c, h3d, h4]
        repeat (with_reducible refine And.intro (by first | assumption | omega | (simp only [i64in] at *; omega)) ?_)
        by_cases h5 : (decide ((List.length e.Fields : Int) > 12)) = true
        · rw [if_pos h5] at hsh
          simp only [Erun, Ek, Ev, El, Ea, Eu, hX.res, hX.Q, List.getElem?_cons_zero, List.getElem?_cons_succ, seval, Et, h1, h2, h3a, h3b, h3c, h3d, h4, h5]
          repeat (with_reducible refine And.intro (by first | assumption | omega | (simp only [i64in] at *; omega)) ?_)
          obtain rfl := Option.some.inj hsh
          refine post_give [] ?_
          simp [El2, El3, El4, Ev, El, Eb, Et, h1, h2, h3a, h3b, h3c, h3d, h4, h5]
        · rw [if_neg h5] at hsh; replace h5 := neg_b h5
          simp only [Erun, Ek, Ev, El, Ea, Eu, hX.res, hX.Q, List.getElem?_cons_zero, List.getElem?_cons_succ, seval, Et, h1, h2, h3a, h3b, h3c, h3d, h4, h5]
          repeat (with_reducible refine And.intro (by first | assumption | omega | (simp only [i64in] at *; omega)) ?_)
          refine go_lessG hX [] [] [] _ _ (by rfl) (by rfl) (by simp [El2, El3, El4, Ev, El, Eb, Et, h1, h2, h3a, h3b, h3c, h3d, h4, h5]) (by simp [El2, El3, El4, Ev, El, Eb, Et, h1, h2, h3a, h3b, h3c, h3d, h4, h5]) (by rfl) (by rfl) (by simp [El2, El3, El4, Ev, El, Eb, Et, h1, h2, h3a, h3b, h3c, h3d, h4, h5]) (go_loop1 (fun (k : Int) => ([.sl 2 (List.map schema_Type.av l), .any, .any, .v (.int .i64 i), .v (.int .i64 k)] ++ List.replicate 46 .any)) (fun (k : Int) => ⟨[], []⟩) 1000 (fun next2 ih2 k hsh => ?_) N 0 hsh)
          simp only [List.replicate, El] at ih2 ⊢
          rw [s_law06_Over_2] at hsh
          simp only [Erun, Ek, Ev, El, Ea, Eu, hX.res, hX.Q, List.getElem?_cons_zero, List.getElem?_cons_succ, seval, Et, h1, h2, h3a, h3b, h3c, h3d, h4, h5]
          repeat (with_reducible refine And.intro (by first | assumption | omega | (simp only [i64in] at *; omega)) ?_)
          by_cases h6 : (decide (k < (List.length e.Fields : Int))) = true
          · rw [if_pos h6] at hsh
            obtain ⟨e2, h7x, hsh⟩ := Option.bind_eq_some_iff.1 hsh
            obtain ⟨h7a, h7b, h7c, h7d⟩ := ix_some h7x
            simp only [Erun, Ek, Ev, El, Ea, Eu, hX.res, hX.Q, List.getElem?_cons_zero, List.getElem?_cons_succ, seval, Et, h1, h2, h3a, h3b, h3c, h3d, h4, h5, h6, h7a, h7b, h7c, h7d]
            repeat (with_reducible refine And.intro (by first | assumption | omega | (simp only [i64in] at *; omega)) ?_)
            by_cases h8 : (decide ((List.length e2.Name : Int) > 40)) = true
            · rw [if_pos h8] at hsh
              simp only [Erun, Ek, Ev, El, Ea, Eu, hX.res, hX.Q, List.getElem?_cons_zero, List.getElem?_cons_succ, seval, Et, h1, h2, h3a, h3b, h3c, h3d, h4, h5, h6, h7a, h7b, h7c, h7d, h8]
              repeat (with_reducible refine And.intro (by first | assumption | omega | (simp only [i64in] at *; omega)) ?_)
              obtain rfl := Option.some.inj hsh
              refine post_give [] ?_
              simp [El2, El3, El4, Ev, El, Eb, Et, h1, h2, h3a, h3b, h3c, h3d, h4, h5, h6, h7a, h7b, h7c, h7d, h8]
            · rw [if_neg h8] at hsh; replace h8 := neg_b h8
              obtain ⟨h9, hsh⟩ := guard_some hsh
              simp only [Erun, Ek, Ev, El, Ea, Eu, hX.res, hX.Q, List.getElem?_cons_zero, List.getElem?_cons_succ, seval, Et, h1, h2, h3a, h3b, h3c, h3d, h4, h5, h6, h7a, h7b, h7c, h7d, h8, h9]
              repeat (with_reducible refine And.intro (by first | assumption | omega | (simp only [i64in] at *; omega)) ?_)
              exact go_lessG hX [] [] [] _ _ (by rfl) (by rfl) (by simp [El2, El3, El4, Ev, El, Eb, Et, h1, h2, h3a, h3b, h3c, h3d, h4, h5, h6, h7a, h7b, h7c, h7d, h8, h9]) (by simp [El2, El3, El4, Ev, El, Eb, Et, h1, h2, h3a, h3b, h3c, h3d, h4, h5, h6, h7a, h7b, h7c, h7d, h8, h9]) (by rfl) (by rfl) (by simp [El2, El3, El4, Ev, El, Eb, Et, h1, h2, h3a, h3b, h3c, h3d, h4, h5, h6, h7a, h7b, h7c, h7d, h8, h9]) (ih2 (k + 1) hsh)
          · rw [if_neg h6] at hsh; replace h6 := neg_b h6
            obtain ⟨h10, hsh⟩ := guard_some hsh
            simp only [Erun, Ek, Ev, El, Ea, Eu, hX.res, hX.Q, List.getElem?_cons_zero, List.getElem?_cons_succ, seval, Et, h1, h2, h3a, h3b, h3c, h3d, h4, h5, h6, h10]
            repeat (with_reducible refine And.intro (by first | assumption | omega | (simp only [i64in] at *; omega)) ?_)
            exact go_lessG hX [] [] [] _ _ (by rfl) (by rfl) (by simp [El2, El3, El4, Ev, El, Eb, Et, h1, h2, h3a, h3b, h3c, h3d, h4, h5, h6, h10]) (by simp [El2, El3, El4, Ev, El, Eb, Et, h1, h2, h3a, h3b, h3c, h3d, h4, h5, h6, h10]) (by rfl) (by rfl) (by simp [El2, El3, El4, Ev, El, Eb, Et, h1, h2, h3a, h3b, h3c, h3d, h4, h5, h6, h10]) (ih1 (i + 1) hsh)
    · rw [if_neg h2] at hsh; replace h2 := neg_b h2
      simp only [Erun, Ek, Ev, El, Ea, Eu, hX.res, hX.Q, List.getElem?_cons_zero, List.getElem?_cons_succ, seval, Et, h1, h2]
      repeat (with_reducible refine And.intro (by first | assumption | omega | (simp only [i64in] at *; omega)) ?_)
      obtain rfl := Option.some.inj hsh
      refine post_give [] ?_
      simp [El2, El3, El4, Ev, El, Eb, Et, h1, h2]
set_option maxHeartbeats 8000000 in
theorem c_slices_Equal_schema_Field (N : Nat) (s1 : List schema_Field) (s2 : List schema_Field) (r : Bool) (hsh : s_slices_Equal_schema_Field N s1 s2 = some r) : CRes prog 57 [.sl 2 (List.map schema_Field.av s1), .sl 2 (List.map schema_Field.av s2)] .nil (.ret (.v (.bool r))) .nil := by
  refine is_slices_Equal_schema_Field.run hm 1000 _ rfl fun X hX => ?_
  simp only [List.length_cons, List.length_nil, List.replicate, Nat.reduceAdd, Nat.reduceSub, El, Et]
  rw [s_slices_Equal_schema_Field] at hsh
  simp only [Erun, Ek, Ev, El, Ea, Eu, hX.res, hX.Q, List.getElem?_cons_zero, List.getElem?_cons_succ, seval, Et]
  repeat (with_reducible refine And.intro (by first | assumption | omega | (simp only [i64in] at *; omega)) ?_)
  by_cases h1 : ((List.length s1 : Int) != (List.length s2 : Int)) = true
  · rw [if_pos h1] at hsh
    simp only [Erun, Ek, Ev, El, Ea, Eu, hX.res, hX.Q, List.getElem?_cons_zero, List.getElem?_cons_succ, seval, Et, h1]
    repeat (with_reducible refine And.intro (by first | assumption | omega | (simp only [i64in] at *; omega)) ?_)
    obtain rfl := Option.some.inj hsh
    refine post_give [] ?_
    simp [El2, El3, El4, Ev, El, Eb, Et, h1]
  · rw [if_neg h1] at hsh; replace h1 := neg_b h1
    simp only [Erun, Ek, Ev, El, Ea, Eu, hX.res, hX.Q, List.getElem?_cons_zero, List.getElem?_cons_succ, seval, Et, h1]
    repeat (with_reducible refine And.intro (by first | assumption | omega | (simp only [i64in] at *; omega)) ?_)
    refine go_lessG hX [] [] [] _ _ (by rfl) (by rfl) (by simp [El2, El3, El4, Ev, El, Eb, Et, h1]) (by simp [El2, El3, El4, Ev, El, Eb, Et, h1]) (by rfl) (by rfl) (by simp [El2, El3, El4, Ev, El, Eb, Et, h1]) (go_loop1 (fun (x : Int) => ([.sl 2 (List.map schema_Field.av s1), .sl 2 (List.map schema_Field.av s2), .any, .any, .any, .any, .any, .any, .any, .any, .any, .any, .v (.int .i64 (List.length s1 : Int)), .v (.int .i64 x)] ++ List.replicate 12 .any)) (fun (x : Int) => ⟨[], []⟩) 1000 (fun next1 ih1 x hsh => ?_) N 0 hsh)
    simp only [List.replicate, El] at ih1 ⊢
    rw [s_slices_Equal_schema_Field_1] at hsh
    simp only [Erun, Ek, Ev, El, Ea, Eu, hX.res, hX.Q, List.getElem?_cons_zero, List.getElem?_cons_succ, seval, Et, h1]
    repeat (with_reducible refine And.intro (by first | assumption | omega | (simp only [i64in] at *; omega)) ?_)
    by_cases h2 : (decide (x < (List.length s1 : Int))) = true
    · rw [if_pos h2] at hsh
      obtain ⟨e, h3x, hsh⟩ := Option.bind_eq_some_iff.1 hsh
      obtain ⟨h3a, h3b, h3c, h3d⟩ := ix_some h3x
      obtain ⟨e2, h4x, hsh⟩ := Option.bind_eq_some_iff.1 hsh
      obtain ⟨h4a, h4b, h4c, h4d⟩ := ix_some h4x
      simp only [Erun, Ek, Ev, El, Ea, Eu, hX.res, hX.Q, List.getElem?_cons_zero, List.getElem?_cons_succ, seval, Et, h1, h2, h3a, h3b, h3c, h3d, h4a, h4b, h4c, h4d]
      repeat (with_reducible refine And.intro (by first | assumption | omega | (simp only [i64in] at *; omega)) ?_)
      by_cases h5 : ((e.Name == e2.Name) && (e.Kind == e2.Kind)) = true
      · rw [if_pos h5] at hsh
        obtain ⟨h6, hsh⟩ := guard_some hsh
        simp only [Erun, Ek, Ev, El, Ea, Eu, hX.res, hX.Q, List.getElem?_cons_zero, List.getElem?_cons_succ, seval, Et, h1, h2, h3a, h3b, h3c, h3d, h4a, h4b, h4c, h4d, h5, h6]
        repeat (with_reducible refine And.intro (by first | assumption | omega | (simp only [i64in] at *; omega)) ?_)
        exact go_lessG hX [] [] [] _ _ (by rfl) (by rfl) (by simp [El2, El3, El4, Ev, El, Eb, Et, h1, h2, h3a, h3b, h3c, h3d, h4a, h4b, h4c, h4d, h5, h6]) (by simp [El2, El3, El4, Ev, El, Eb, Et, h1, h2, h3a, h3b, h3c, h3d, h4a, h4b, h4c, h4d, h5, h6]) (by rfl) (by rfl) (by simp [El2, El3, El4, Ev, El, Eb, Et, h1, h2, h3a, h3b, h3c, h3d, h4a, h4b, h4c, h4d, h5, h6]) (ih1 (x + 1) hsh)
      · rw [if_neg h5] at hsh; replace h5 := neg_b h5
        simp only [Erun, Ek, Ev, El, Ea, Eu, hX.res, hX.Q, List.getElem?_cons_zero, List.getElem?_cons_succ, seval, Et, h1, h2, h3a, h3b, h3c, h3d, h4a, h4b, h4c, h4d, h5]
        repeat (with_reducible refine And.intro (by first | assumption | omega | (simp only [i64in] at *; omega)) ?_)
        obtain rfl := Option.some.inj hsh
        refine post_give [] ?_
        simp [El2, El3, El4, Ev, El, Eb, Et, h1, h2, h3a, h3b, h3c, h3d, h4a, h4b, h4c, h4d, h5]
    · rw [if_neg h2] at hsh; replace h2 := neg_b h2
      simp only [Erun, Ek, Ev, El, Ea, Eu, hX.res, hX.Q, List.getElem?_cons_zero, List.getElem?_cons_succ, seval, Et, h1, h2]
      repeat (with_reducible refine And.intro (by first | assumption | omega | (simp only [i64in] at *; omega)) ?_)
      obtain rfl := Option.some.inj hsh
      refine post_give [] ?_
      simp [El2, El3, El4, Ev, El, Eb, Et, h1, h2]
set_option maxHeartbeats 8000000 in
theorem c_ref32_Least (N : Nat) (g : gate_Gate) (r : Int) (hsh : s_ref32_Least N g = some r) : CRes prog 23 [gate_Gate.av g] .nil (.ret (.v (.int .i64 r))) .nil := by
  refine is_ref32_Least.run hm 1000 _ rfl fun X hX => ?_
  simp only [List.length_cons, List.length_nil, List.replicate, Nat.reduceAdd, Nat.reduceSub, El, Et]
  rw [s_ref32_Least] at hsh
  simp only [Erun, Ek, Ev, El, Ea, Eu, hX.res, hX.Q, List.getElem?_cons_zero, List.getElem?_cons_succ, seval, Et]
  repeat (with_reducible refine And.intro (by first | assumption | omega | (simp only [i64in] at *; omega)) ?_)
  refine go_lessG hX [] [0] [] _ _ (by rfl) (by rfl) (by simp [El2, El3, El4, Ev, El, Eb, Et]) (by simp [El2, El3, El4, Ev, El, Eb, Et]) (by rfl) (by rfl) (by simp [El2, El3, El4, Ev, El, Eb, Et]) (go_loop2 (fun (least : Int) (i : Int) => ([.any, .ptr 0 0, .any, .v (.int .i64 least), .v (.int .i64 i)] ++ List.replicate 23 .any)) (fun (least : Int) (i : Int) => ⟨[[.sl 2 (List.map schema_Type.av g.Types), .sl 3 (List.map gate_Source.av g.L)]], []⟩) 1000 (fun next1 ih1 least i hsh => ?_) N 1099511627777 0 hsh)
  simp only [List.replicate, El] at ih1 ⊢
  rw [s_ref32_Least_1] at hsh
  simp only [Erun, Ek, Ev, El, Ea, Eu, hX.res, hX.Q, List.getElem?_cons_zero, List.getElem?_cons_succ, seval, Et]
  repeat (with_reducible refine And.intro (by first | assumption | omega | (simp only [i64in] at *; omega)) ?_)
  by_cases h1 : (decide (i < (List.length g.L : Int))) = true
  · rw [if_pos h1] at hsh
    obtain ⟨e, h2x, hsh⟩ := Option.bind_eq_some_iff.1 hsh
    obtain ⟨h2a, h2b, h2c, h2d⟩ := ix_some h2x
    simp only [Erun, Ek, Ev, El, Ea, Eu, hX.res, hX.Q, List.getElem?_cons_zero, List.getElem?_cons_succ, seval, Et, h1, h2a, h2b, h2c, h2d]
    repeat (with_reducible refine And.intro (by first | assumption | omega | (simp only [i64in] at *; omega)) ?_)
    by_cases h3 : e.Closed = true
    · rw [if_pos h3] at hsh
      obtain ⟨h4, hsh⟩ := guard_some hsh
      simp only [Erun, Ek, Ev, El, Ea, Eu, hX.res, hX.Q, List.getElem?_cons_zero, List.getElem?_cons_succ, seval, Et, h1, h2a, h2b, h2c, h2d, h3, h4]
      repeat (with_reducible refine And.intro (by first | assumption | omega | (simp only [i64in] at *; omega)) ?_)
      exact go_lessG hX [] [0] [] _ _ (by rfl) (by rfl) (by simp [El2, El3, El4, Ev, El, Eb, Et, h1, h2a, h2b, h2c, h2d, h3, h4]) (by simp [El2, El3, El4, Ev, El, Eb, Et, h1, h2a, h2b, h2c, h2d, h3, h4]) (by rfl) (by rfl) (by simp [El2, El3, El4, Ev, El, Eb, Et, h1, h2a, h2b, h2c, h2d, h3, h4]) (ih1 least (i + 1) hsh)
    · rw [if_neg h3] at hsh; replace h3 := neg_b h3
      simp only [Erun, Ek, Ev, El, Ea, Eu, hX.res, hX.Q, List.getElem?_cons_zero, List.getElem?_cons_succ, seval, Et, h1, h2a, h2b, h2c, h2d, h3]
      repeat (with_reducible refine And.intro (by first | assumption | omega | (simp only [i64in] at *; omega)) ?_)
      refine (vraw_pure (fun _ => by rw [hX.P]; exact os_min rfl rfl) (r := .v (.int .i64 (min least e.Front))) ?_)
      refine run_go 1000 _ _ _ _ ?_
      obtain ⟨h5, hsh⟩ := guard_some hsh
      simp only [Erun, Ek, Ev, El, Ea, Eu, hX.res, hX.Q, List.getElem?_cons_zero, List.getElem?_cons_succ, seval, Et, h1, h2a, h2b, h2c, h2d, h3, h5]
      repeat (with_reducible refine And.intro (by first | assumption | omega | (simp only [i64in] at *; omega)) ?_)
      exact go_lessG hX [] [0] [] _ _ (by rfl) (by rfl) (by simp [El2, El3, El4, Ev, El, Eb, Et, h1, h2a, h2b, h2c, h2d, h3, h5]) (by simp [El2, El3, El4, Ev, El, Eb, Et, h1, h2a, h2b, h2c, h2d, h3, h5]) (by rfl) (by rfl) (by simp [El2, El3, El4, Ev, El, Eb, Et, h1, h2a, h2b, h2c, h2d, h3, h5]) (ih1 (min least e.Front) (i + 1) hsh)
  · rw [if_neg h1] at hsh; replace h1 := neg_b h1
    simp only [Erun, Ek, Ev, El, Ea, Eu, hX.res, hX.Q, List.getElem?_cons_zero, List.getElem?_cons_succ, seval, Et, h1]
    repeat (with_reducible refine And.intro (by first | assumption | omega | (simp only [i64in] at *; omega)) ?_)
    obtain rfl := Option.some.inj hsh
    refine post_give [] ?_
    simp [El2, El3, El4, Ev, El, Eb, Et, h1]
set_option maxHeartbeats 8000000 in
theorem c_schema_Type_Field (N : Nat) (t : schema_Type) (name : List UInt8) (r : Int × Int) (hsh : s_schema_Type_Field N t name = some r) : CRes prog 62 [schema_Type.av t, .v (.string (bs name))] .nil (.ret (.tup [.v (.int .i64 r.1), .v (.int .u8 r.2)])) .nil := by
  refine is_schema_Type_Field.run hm 1000 _ rfl fun X hX => ?_
  simp only [List.length_cons, List.length_nil, List.replicate, Nat.reduceAdd, Nat.reduceSub, El, Et]
  rw [s_schema_Type_Field] at hsh
  simp only [Erun, Ek, Ev, El, Ea, Eu, hX.res, hX.Q, List.getElem?_cons_zero, List.getElem?_cons_succ, seval, Et]
  repeat (with_reducible refine And.intro (by first | assumption | omega | (simp only [i64in] at *; omega)) ?_)
  refine go_lessG hX [] [] [] _ _ (by rfl) (by rfl) (by simp [El2, El3, El4, Ev, El, Eb, Et]) (by simp [El2, El3, El4, Ev, El, Eb, Et]) (by rfl) (by rfl) (by simp [El2, El3, El4, Ev, El, Eb, Et]) (go_loop1 (fun (x : Int) => ([.any, .v (.string (bs name)), .any, .any, .any, .any, .any, .any, .any, .sl 2 (List.map schema_Field.av t.Fields), .v (.int .i64 (List.length t.Fields : Int)), .v (.int .i64 x)] ++ List.replicate 12 .any)) (fun (x : Int) => ⟨[], []⟩) 1000 (fun next1 ih1 x hsh => ?_) N 0 hsh)
  simp only [List.replicate, El] at ih1 ⊢
  rw [s_schema_Type_Field_1] at hsh
  simp only [Erun, Ek, Ev, El, Ea, Eu, hX.res, hX.Q, List.getElem?_cons_zero, List.getElem?_cons_succ, seval, Et]
  repeat (with_reducible refine And.intro (by first | assumption | omega | (simp only [i64in] at *; omega)) ?_)
  by_cases h1 : (decide (x < (List.length t.Fields : Int))) = true
  · rw [if_pos h1] at hsh
    obtain ⟨e, h2x, hsh⟩ := Option.bind_eq_some_iff.1 hsh
    obtain ⟨h2a, h2b, h2c, h2d⟩ := ix_some h2x
    simp only [Erun, Ek, Ev, El, Ea, Eu, hX.res, hX.Q, List.getElem?_cons_zero, List.getElem?_cons_succ, seval, Et, h1, h2a, h2b, h2c, h2d]
    repeat (with_reducible refine And.intro (by first | assumption | omega | (simp only [i64in] at *; omega)) ?_)
    by_cases h3 : (e.Name == name) = true
    · rw [if_pos h3] at hsh
      simp only [Erun, Ek, Ev, El, Ea, Eu, hX.res, hX.Q, List.getElem?_cons_zero, List.getElem?_cons_succ, seval, Et, h1, h2a, h2b, h2c, h2d, h3]
      repeat (with_reducible refine And.intro (by first | assumption | omega | (simp only [i64in] at *; omega)) ?_)
      obtain rfl := Option.some.inj hsh
      refine post_give [] ?_
      simp [El2, El3, El4, Ev, El, Eb, Et, h1, h2a, h2b, h2c, h2d, h3]
    · rw [if_neg h3] at hsh; replace h3 := neg_b h3
      obtain ⟨h4, hsh⟩ := guard_some hsh
      simp only [Erun, Ek, Ev, El, Ea, Eu, hX.res, hX.Q, List.getElem?_cons_zero, List.getElem?_cons_succ, seval, Et, h1, h2a, h2b, h2c, h2d, h3, h4]
      repeat (with_reducible refine And.intro (by first | assumption | omega | (simp only [i64in] at *; omega)) ?_)
      exact go_lessG hX [] [] [] _ _ (by rfl) (by rfl) (by simp [El2, El3, El4, Ev, El, Eb, Et, h1, h2a, h2b, h2c, h2d, h3, h4]) (by simp [El2, El3, El4, Ev, El, Eb, Et, h1, h2a, h2b, h2c, h2d, h3, h4]) (by rfl) (by rfl) (by simp [El2, El3, El4, Ev, El, Eb, Et, h1, h2a, h2b, h2c, h2d, h3, h4]) (ih1 (x + 1) hsh)
  · rw [if_neg h1] at hsh; replace h1 := neg_b h1
    simp only [Erun, Ek, Ev, El, Ea, Eu, hX.res, hX.Q, List.getElem?_cons_zero, List.getElem?_cons_succ, seval, Et, h1]
    repeat (with_reducible refine And.intro (by first | assumption | omega | (simp only [i64in] at *; omega)) ?_)
    obtain rfl := Option.some.inj hsh
    refine post_give [] ?_
    simp [El2, El3, El4, Ev, El, Eb, Et, h1]
set_option maxHeartbeats 8000000 in
theorem c_law06_Vals (N : Nat) (l : List value_Value) (r : List value_Value) (hsh : s_law06_Vals N l = some r) : CRes prog 33 [.sl 4 (List.map value_Value.av l)] .nil (.ret (.sl 4 (List.map value_Value.av r))) .nil := by
  refine is_law06_Vals.run hm 1000 _ rfl fun X hX => ?_
  simp only [List.length_cons, List.length_nil, List.replicate, Nat.reduceAdd, Nat.reduceSub, El, Et]
  rw [s_law06_Vals] at hsh
  simp only [Erun, Ek, Ev, El, Ea, Eu, hX.res, hX.Q, List.getElem?_cons_zero, List.getElem?_cons_succ, seval, Et]
  repeat (with_reducible refine And.intro (by first | assumption | omega | (simp only [i64in] at *; omega)) ?_)
  refine go_emp 3 4 trivial (by simp) rfl ?_
  simp only [El, Ea]
  refine go_lessG hX [] [] [0] _ _ (by rfl) (by rfl) (by simp [El2, El3, El4, Ev, El, Eb, Et]) (by simp [El2, El3, El4, Ev, El, Eb, Et]) (by rfl) (by rfl) (by simp [El2, El3, El4, Ev, El, Eb, Et]) (go_loop2 (fun (i : Int) (ys : List value_Value) => ([.sl 4 (List.map value_Value.av l), .any, .any, .own 0, .v (.int .i64 i)] ++ List.replicate 14 .any)) (fun (i : Int) (ys : List value_Value) => ⟨[], [.live 4 (List.map value_Value.av ys)]⟩) 1000 (fun next1 ih1 i ys hsh => ?_) N 0 [] hsh)
  simp only [List.replicate, El] at ih1 ⊢
  rw [s_law06_Vals_1] at hsh
  simp only [Erun, Ek, Ev, El, Ea, Eu, hX.res, hX.Q, List.getElem?_cons_zero, List.getElem?_cons_succ, seval, Et]
  repeat (with_reducible refine And.intro (by first | assumption | omega | (simp only [i64in] at *; omega)) ?_)
  by_cases h1 : (decide (i < (List.length l : Int))) = true
  · rw [if_pos h1] at hsh
    obtain ⟨e, h2x, hsh⟩ := Option.bind_eq_some_iff.1 hsh
    obtain ⟨h2a, h2b, h2c, h2d⟩ := ix_some h2x
    obtain ⟨h3, hsh⟩ := guard_some hsh
    have g4 : (List.map value_Value.av ys) ++ ([.agg [.v (.int .u8 e.Kind), .v (.int .i64 e.N), .v (.int .u64 e.Bits), .v (.string (bs e.Text))]] : List AV) = (List.map value_Value.av (ys ++ [e])) := by simp [Et]
    obtain ⟨h5, hsh⟩ := guard_some hsh
    simp only [Erun, Ek, Ev, El, Ea, Eu, hX.res, hX.Q, List.getElem?_cons_zero, List.getElem?_cons_succ, seval, Et, h1, h2a, h2b, h2c, h2d, h3, g4, h5]
    repeat (with_reducible refine And.intro (by first | assumption | omega | (simp only [i64in] at *; omega)) ?_)
    exact go_lessG hX [] [] [2] _ _ (by rfl) (by rfl) (by simp [El2, El3, El4, Ev, El, Eb, Et, h1, h2a, h2b, h2c, h2d, h3, h5]) (by simp [El2, El3, El4, Ev, El, Eb, Et, h1, h2a, h2b, h2c, h2d, h3, h5]) (by rfl) (by rfl) (by simp [El2, El3, El4, Ev, El, Eb, Et, h1, h2a, h2b, h2c, h2d, h3, h5]) (ih1 (i + 1) (ys ++ [e]) hsh)
  · rw [if_neg h1] at hsh; replace h1 := neg_b h1
    simp only [Erun, Ek, Ev, El, Ea, Eu, hX.res, hX.Q, List.getElem?_cons_zero, List.getElem?_cons_succ, seval, Et, h1]
    repeat (with_reducible refine And.intro (by first | assumption | omega | (simp only [i64in] at *; omega)) ?_)
    obtain rfl := Option.some.inj hsh
    refine post_give [0] ?_
    simp [El2, El3, El4, Ev, El, Eb, Et, h1]
set_option maxHeartbeats 8000000 in
theorem c_slices_Clone_schema_Type (N : Nat) (s : List schema_Type) (r : List schema_Type) (hsh : s_slices_Clone_schema_Type N s = some r) : CRes prog 28 [.sl 2 (List.map schema_Type.av s)] .nil (.ret (.sl 2 (List.map schema_Type.av r))) .nil := by
  refine is_slices_Clone_schema_Type.run hm 1000 _ rfl fun X hX => ?_
  simp only [List.length_cons, List.length_nil, List.replicate, Nat.reduceAdd, Nat.reduceSub, El, Et]
  rw [s_slices_Clone_schema_Type] at hsh
  simp only [Erun, Ek, Ev, El, Ea, Eu, hX.res, hX.Q, List.getElem?_cons_zero, List.getElem?_cons_succ, seval, Et]
  repeat (with_reducible refine And.intro (by first | assumption | omega | (simp only [i64in] at *; omega)) ?_)
  refine vraw_alt (by rw [hX.P]; exact osn_nil (ne := false) (e := 79) rfl (by kernel_rfl) rfl) (fun h1 => ?_) (fun _ => ?_)
  · replace h1 : s = [] := by simpa using h1
    have hsh : (some []) = some r := by simpa [h1] using hsh
    refine run_go 1000 _ _ _ _ ?_
    simp only [Erun, Ek, Ev, El, Ea, Eu, hX.res, hX.Q, List.getElem?_cons_zero, List.getElem?_cons_succ, seval, Et, h1]
    repeat (with_reducible refine And.intro (by first | assumption | omega | (simp only [i64in] at *; omega)) ?_)
    obtain rfl := Option.some.inj hsh
    refine post_give [] ?_
    simp [El2, El3, El4, Ev, El, Eb, Et, h1]
  · refine run_go 1000 _ _ _ _ ?_
    obtain ⟨h2, hsh⟩ := guard_some hsh
    simp only [Erun, Ek, Ev, El, Ea, Eu, hX.res, hX.Q, List.getElem?_cons_zero, List.getElem?_cons_succ, seval, Et, h2]
    repeat (with_reducible refine And.intro (by first | assumption | omega | (simp only [i64in] at *; omega)) ?_)
    obtain rfl := Option.some.inj hsh
    refine post_give [1] ?_
    simp [El2, El3, El4, Ev, El, Eb, Et, h2]
set_option maxHeartbeats 8000000 in
theorem c_ref32_with (N : Nat) (g : gate_Gate) (s : Int) (x : gate_Source) (r : gate_Gate) (hsh : s_ref32_with N g s x = some r) : CRes prog 40 [gate_Gate.av g, .v (.int .i64 s), gate_Source.av x] .nil (.ret (gate_Gate.av r)) .nil := by
  refine is_ref32_with.run hm 1000 _ rfl fun X hX => ?_
  simp only [List.length_cons, List.length_nil, List.replicate, Nat.reduceAdd, Nat.reduceSub, El, Et]
  rw [s_ref32_with] at hsh
  obtain ⟨h1, hsh⟩ := guard_some hsh
  obtain ⟨e, h2x, hsh⟩ := Option.bind_eq_some_iff.1 hsh
  obtain ⟨h2a, h2b, h2c, h2d⟩ := ix_some h2x
  have g3 : List.set (List.map gate_Source.av g.L) (Int.toNat s) (.agg [.v (.int .i64 x.Front), .v (.int .i64 x.Last), .v (.bool x.Closed)] : AV) = (List.map gate_Source.av (List.set g.L (Int.toNat s) x)) := by simp [List.map_set, Et]
  simp only [Erun, Ek, Ev, El, Ea, Eu, hX.res, hX.Q, List.getElem?_cons_zero, List.getElem?_cons_succ, seval, Et, h1, h2a, h2b, h2c, h2d, g3]
  repeat (with_reducible refine And.intro (by first | assumption | omega | (simp only [i64in] at *; omega)) ?_)
  obtain rfl := Option.some.inj hsh
  refine post_give [1] ?_
  simp [El2, El3, El4, Ev, El, Eb, Et, h1, h2a, h2b, h2c, h2d]
set_option maxHeartbeats 8000000 in
theorem c_value_double_whole (N : Nat) (u : Int) (r : value_Value) (hsh : s_value_double_whole N u = some r) : CRes prog 112 [.v (.int .u64 u)] .nil (.ret (value_Value.av r)) .nil := by
  refine is_value_double_whole.run hm 1000 _ rfl fun X hX => ?_
  simp only [List.length_cons, List.length_nil, List.replicate, Nat.reduceAdd, Nat.reduceSub, El, Et]
  rw [s_value_double_whole] at hsh
  simp only [Erun, Ek, Ev, El, Ea, Eu, hX.res, hX.Q, List.getElem?_cons_zero, List.getElem?_cons_succ, seval, Et]
  repeat (with_reducible refine And.intro (by first | assumption | omega | (simp only [i64in] at *; omega)) ?_)
  obtain rfl := Option.some.inj hsh
  refine post_give [] ?_
  simp [El2, El3, El4, Ev, El, Eb, Et]
set_option maxHeartbeats 8000000 in
theorem c_ref03_Frac (N : Nat) (u : Int) (r : Int) (hsh : s_ref03_Frac N u = some r) : CRes prog 93 [.v (.int .u64 u)] .nil (.ret (.v (.int .u64 r))) .nil := by
  refine is_ref03_Frac.run hm 1000 _ rfl fun X hX => ?_
  simp only [List.length_cons, List.length_nil, List.replicate, Nat.reduceAdd, Nat.reduceSub, El, Et]
  rw [s_ref03_Frac] at hsh
  simp only [Erun, Ek, Ev, El, Ea, Eu, hX.res, hX.Q, List.getElem?_cons_zero, List.getElem?_cons_succ, seval, Et]
  repeat (with_reducible refine And.intro (by first | assumption | omega | (simp only [i64in] at *; omega)) ?_)
  obtain rfl := Option.some.inj hsh
  refine post_give [] ?_
  simp [El2, El3, El4, Ev, El, Eb, Et]
end Go.Proofs.YtfblfapkpieckaaDoor.W
namespace Go.Proofs.YtfblfapkpieckaaDoor.W
open Go
open Go.Proofs.Tryd
set_option linter.unusedSimpArgs false
set_option linter.unusedVariables false
set_option maxHeartbeats 8000000 in
theorem c_law06_Back (N : Nat) (l : List schema_Type) (r : List schema_Type) (hsh : s_law06_Back N l = some r) : CRes prog 31 [.sl 2 (List.map schema_Type.av l)] .nil (.ret (.sl 2 (List.map schema_Type.av r))) .nil := by
  refine is_law06_Back.run hm 1000 _ rfl fun X hX => ?_
  simp only [List.length_cons, List.length_nil, List.replicate, Nat.reduceAdd, Nat.reduceSub, El, Et]
  rw [s_law06_Back] at hsh
  simp only [Erun, Ek, Ev, El, Ea, Eu, hX.res, hX.Q, List.getElem?_cons_zero, List.getElem?_cons_succ, seval, Et]
  repeat (with_reducible refine And.intro (by first | assumption | omega | (simp only [i64in] at *; omega)) ?_)
  refine go_emp 3 2 trivial (by simp) rfl ?_
  simp only [El, Ea]
  refine go_lessG hX [] [] [0] _ _ (by rfl) (by rfl) (by simp [El2, El3, El4, Ev, El, Eb, Et]) (by simp [El2, El3, El4, Ev, El, Eb, Et]) (by rfl) (by rfl) (by simp [El2, El3, El4, Ev, El, Eb, Et]) (go_loop2 (fun (i : Int) (ys : List schema_Type) => ([.sl 2 (List.map schema_Type.av l), .any, .any, .own 0, .v (.int .i64 i)] ++ List.replicate 42 .any)) (fun (i : Int) (ys : List schema_Type) => ⟨[], [.live 2 (List.map schema_Type.av ys)]⟩) 1000 (fun next1 ih1 i ys hsh => ?_) N 0 [] hsh)
  simp only [List.replicate, El] at ih1 ⊢
  rw [s_law06_Back_1] at hsh
  simp only [Erun, Ek, Ev, El, Ea, Eu, hX.res, hX.Q, List.getElem?_cons_zero, List.getElem?_cons_succ, seval, Et]
  repeat (with_reducible refine And.intro (by first | assumption | omega | (simp only [i64in] at *; omega)) ?_)
  by_cases h1 : (decide (i < (List.length l : Int))) = true
  · rw [if_pos h1] at hsh
    obtain ⟨e, h2x, hsh⟩ := Option.bind_eq_some_iff.1 hsh
    obtain ⟨h2a, h2b, h2c, h2d⟩ := ix_some h2x
    simp only [Erun, Ek, Ev, El, Ea, Eu, hX.res, hX.Q, List.getElem?_cons_zero, List.getElem?_cons_succ, seval, Et, h1, h2a, h2b, h2c, h2d]
    repeat (with_reducible refine And.intro (by first | assumption | omega | (simp only [i64in] at *; omega)) ?_)
    refine go_empb 0 1 2 trivial (by simp) (by simp [List.getD]) rfl ?_
    simp only [El, Ea]
    refine go_lessG hX [] [0] [0, 1] _ _ (by rfl) (by rfl) (by simp [El2, El3, El4, Ev, El, Eb, Et, h1, h2a, h2b, h2c, h2d]) (by simp [El2, El3, El4, Ev, El, Eb, Et, h1, h2a, h2b, h2c, h2d]) (by rfl) (by rfl) (by simp [El2, El3, El4, Ev, El, Eb, Et, h1, h2a, h2b, h2c, h2d]) (go_loop2 (fun (k : Int) (ys2 : List schema_Field) => ([.sl 2 (List.map schema_Type.av l), .any, .any, .own 0, .v (.int .i64 i), .ptr 0 0, .v (.int .i64 k)] ++ List.replicate 40 .any)) (fun (k : Int) (ys2 : List schema_Field) => ⟨[[.v (.string (bs e.Name)), .own 1]], [.live 2 (List.map schema_Type.av ys), .live 2 (List.map schema_Field.av ys2)]⟩) 1000 (fun next2 ih2 k ys2 hsh => ?_) N 0 [] hsh)
    simp only [List.replicate, El] at ih2 ⊢
    rw [s_law06_Back_2] at hsh
    simp only [Erun, Ek, Ev, El, Ea, Eu, hX.res, hX.Q, List.getElem?_cons_zero, List.getElem?_cons_succ, seval, Et, h1, h2a, h2b, h2c, h2d]
    repeat (with_reducible refine And.intro (by first | assumption | omega | (simp only [i64in] at *; omega)) ?_)
    by_cases h3 : (decide (k < (List.length e.Fields : Int))) = true
    · rw [if_pos h3] at hsh
      obtain ⟨e2, h4x, hsh⟩ := Option.bind_eq_some_iff.1 hsh
      obtain ⟨h4a, h4b, h4c, h4d⟩ := ix_some h4x
      obtain ⟨h5, hsh⟩ := guard_some hsh
      have g6 : (List.map schema_Field.av ys2) ++ ([.agg [.v (.string (bs e2.Name)), .v (.int .u8 e2.Kind)]] : List AV) = (List.map schema_Field.av (ys2 ++ [e2])) := by simp [Et]
      obtain ⟨h7, hsh⟩ := guard_some hsh
      simp only [Erun, Ek, Ev, El, Ea, Eu, hX.res, hX.Q, List.getElem?_cons_zero, List.getElem?_cons_succ, seval, Et, h1, h2a, h2b, h2c, h2d, h3, h4a, h4b, h4c, h4d, h5, g6, h7]
      repeat (with_reducible refine And.intro (by first | assumption | omega | (simp only [i64in] at *; omega)) ?_)
      exact go_lessG hX [] [0] [0, 2] _ _ (by rfl) (by rfl) (by simp [El2, El3, El4, Ev, El, Eb, Et, h1, h2a, h2b, h2c, h2d, h3, h4a, h4b, h4c, h4d, h5, h7]) (by simp [El2, El3, El4, Ev, El, Eb, Et, h1, h2a, h2b, h2c, h2d, h3, h4a, h4b, h4c, h4d, h5, h7]) (by rfl) (by rfl) (by simp [El2, El3, El4, Ev, El, Eb, Et, h1, h2a, h2b, h2c, h2d, h3, h4a, h4b, h4c, h4d, h5, h7]) (ih2 (k + 1) (ys2 ++ [e2]) hsh)
    · rw [if_neg h3] at hsh; replace h3 := neg_b h3
      obtain ⟨h8, hsh⟩ := guard_some hsh
      have g9 : (List.map schema_Type.av ys) ++ ([.agg [.v (.string (bs e.Name)), .sl 2 (List.map schema_Field.av ys2)]] : List AV) = (List.map schema_Type.av (ys ++ [(schema_Type.mk e.Name ys2)])) := by simp [Et]
      obtain ⟨h10, hsh⟩ := guard_some hsh
      simp only [Erun, Ek, Ev, El, Ea, Eu, hX.res, hX.Q, List.getElem?_cons_zero, List.getElem?_cons_succ, seval, Et, h1, h2a, h2b, h2c, h2d, h3, h8, g9, h10]
      repeat (with_reducible refine And.intro (by first | assumption | omega | (simp only [i64in] at *; omega)) ?_)
      exact go_lessG hX [] [] [3] _ _ (by rfl) (by rfl) (by simp [El2, El3, El4, Ev, El, Eb, Et, h1, h2a, h2b, h2c, h2d, h3, h8, h10]) (by simp [El2, El3, El4, Ev, El, Eb, Et, h1, h2a, h2b, h2c, h2d, h3, h8, h10]) (by rfl) (by rfl) (by simp [El2, El3, El4, Ev, El, Eb, Et, h1, h2a, h2b, h2c, h2d, h3, h8, h10]) (ih1 (i + 1) (ys ++ [(schema_Type.mk e.Name ys2)]) hsh)
  · rw [if_neg h1] at hsh; replace h1 := neg_b h1
    simp only [Erun, Ek, Ev, El, Ea, Eu, hX.res, hX.Q, List.getElem?_cons_zero, List.getElem?_cons_succ, seval, Et, h1]
    repeat (with_reducible refine And.intro (by first | assumption | omega | (simp only [i64in] at *; omega)) ?_)
    obtain rfl := Option.some.inj hsh
    refine post_give [0] ?_
    simp [El2, El3, El4, Ev, El, Eb, Et, h1]
set_option maxHeartbeats 8000000 in
theorem c_law06_Own (N : Nat) (l : List schema_Type) (r : List schema_Type) (hsh : s_law06_Own N l = some r) : CRes prog 8 [.sl 2 (List.map schema_Type.av l)] .nil (.ret (.sl 2 (List.map schema_Type.av r))) .nil := by
  refine is_law06_Own.run hm 1000 _ rfl fun X hX => ?_
  simp only [List.length_cons, List.length_nil, List.replicate, Nat.reduceAdd, Nat.reduceSub, El, Et]
  rw [s_law06_Own] at hsh
  simp only [Erun, Ek, Ev, El, Ea, Eu, hX.res, hX.Q, List.getElem?_cons_zero, List.getElem?_cons_succ, seval, Et]
  repeat (with_reducible refine And.intro (by first | assumption | omega | (simp only [i64in] at *; omega)) ?_)
  refine go_emp 3 2 trivial (by simp) rfl ?_
  simp only [El, Ea]
  refine go_lessG hX [] [] [0] _ _ (by rfl) (by rfl) (by simp [El2, El3, El4, Ev, El, Eb, Et]) (by simp [El2, El3, El4, Ev, El, Eb, Et]) (by rfl) (by rfl) (by simp [El2, El3, El4, Ev, El, Eb, Et]) (go_loop2 (fun (i : Int) (ys : List schema_Type) => ([.sl 2 (List.map schema_Type.av l), .any, .any, .own 0, .v (.int .i64 i)] ++ List.replicate 42 .any)) (fun (i : Int) (ys : List schema_Type) => ⟨[], [.live 2 (List.map schema_Type.av ys)]⟩) 1000 (fun next1 ih1 i ys hsh => ?_) N 0 [] hsh)
  simp only [List.replicate, El] at ih1 ⊢
  rw [s_law06_Own_1] at hsh
  simp only [Erun, Ek, Ev, El, Ea, Eu, hX.res, hX.Q, List.getElem?_cons_zero, List.getElem?_cons_succ, seval, Et]
  repeat (with_reducible refine And.intro (by first | assumption | omega | (simp only [i64in] at *; omega)) ?_)
  by_cases h1 : (decide (i < (List.length l : Int))) = true
  · rw [if_pos h1] at hsh
    obtain ⟨e, h2x, hsh⟩ := Option.bind_eq_some_iff.1 hsh
    obtain ⟨h2a, h2b, h2c, h2d⟩ := ix_some h2x
    simp only [Erun, Ek, Ev, El, Ea, Eu, hX.res, hX.Q, List.getElem?_cons_zero, List.getElem?_cons_succ, seval, Et, h1, h2a, h2b, h2c, h2d]
    repeat (with_reducible refine And.intro (by first | assumption | omega | (simp only [i64in] at *; omega)) ?_)
    refine go_empb 0 1 2 trivial (by simp) (by simp [List.getD]) rfl ?_
    simp only [El, Ea]
    refine go_lessG hX [] [0] [0, 1] _ _ (by rfl) (by rfl) (by simp [El2, El3, El4, Ev, El, Eb, Et, h1, h2a, h2b, h2c, h2d]) (by simp [El2, El3, El4, Ev, El, Eb, Et, h1, h2a, h2b, h2c, h2d]) (by rfl) (by rfl) (by simp [El2, El3, El4, Ev, El, Eb, Et, h1, h2a, h2b, h2c, h2d]) (go_loop2 (fun (k : Int) (ys2 : List schema_Field) => ([.sl 2 (List.map schema_Type.av l), .any, .any, .own 0, .v (.int .i64 i), .ptr 0 0, .v (.int .i64 k)] ++ List.replicate 40 .any)) (fun (k : Int) (ys2 : List schema_Field) => ⟨[[.v (.string (bs e.Name)), .own 1]], [.live 2 (List.map schema_Type.av ys), .live 2 (List.map schema_Field.av ys2)]⟩) 1000 (fun next2 ih2 k ys2 hsh => ?_) N 0 [] hsh)
    simp only [List.replicate, El] at ih2 ⊢
    rw [s_law06_Own_2] at hsh
    simp only [Erun, Ek, Ev, El, Ea, Eu, hX.res, hX.Q, List.getElem?_cons_zero, List.getElem?_cons_succ, seval, Et, h1, h2a, h2b, h2c, h2d]
    repeat (with_reducible refine And.intro (by first | assumption | omega | (simp only [i64in] at *; omega)) ?_)
    by_cases h3 : (decide (k < (List.length e.Fields : Int))) = true
    · rw [if_pos h3] at hsh
      obtain ⟨e2, h4x, hsh⟩ := Option.bind_eq_some_iff.1 hsh
      obtain ⟨h4a, h4b, h4c, h4d⟩ := ix_some h4x
      obtain ⟨h5, hsh⟩ := guard_some hsh
      have g6 : (List.map schema_Field.av ys2) ++ ([.agg [.v (.string (bs e2.Name)), .v (.int .u8 e2.Kind)]] : List AV) = (List.map schema_Field.av (ys2 ++ [e2])) := by simp [Et]
      obtain ⟨h7, hsh⟩ := guard_some hsh
      simp only [Erun, Ek, Ev, El, Ea, Eu, hX.res, hX.Q, List.getElem?_cons_zero, List.getElem?_cons_succ, seval, Et, h1, h2a, h2b, h2c, h2d, h3, h4a, h4b, h4c, h4d, h5, g6, h7]
      repeat (with_reducible refine And.intro (by first | assumption | omega | (simp only [i64in] at *; omega)) ?_)
      exact go_lessG hX [] [0] [0, 2] _ _ (by rfl) (by rfl) (by simp [El2, El3, El4, Ev, El, Eb, Et, h1, h2a, h2b, h2c, h2d, h3, h4a, h4b, h4c, h4d, h5, h7]) (by simp [El2, El3, El4, Ev, El, Eb, Et, h1, h2a, h2b, h2c, h2d, h3, h4a, h4b, h4c, h4d, h5, h7]) (by rfl) (by rfl) (by simp [El2, El3, El4, Ev, El, Eb, Et, h1, h2a, h2b, h2c, h2d, h3, h4a, h4b, h4c, h4d, h5, h7]) (ih2 (k + 1) (ys2 ++ [e2]) hsh)
    · rw [if_neg h3] at hsh; replace h3 := neg_b h3
      obtain ⟨h8, hsh⟩ := guard_some hsh
      have g9 : (List.map schema_Type.av ys) ++ ([.agg [.v (.string (bs e.Name)), .sl 2 (List.map schema_Field.av ys2)]] : List AV) = (List.map schema_Type.av (ys ++ [(schema_Type.mk e.Name ys2)])) := by simp [Et]
      obtain ⟨h10, hsh⟩ := guard_some hsh
      simp only [Erun, Ek, Ev, El, Ea, Eu, hX.res, hX.Q, List.getElem?_cons_zero, List.getElem?_cons_succ, seval, Et, h1, h2a, h2b, h2c, h2d, h3, h8, g9, h10]
      repeat (with_reducible refine And.intro (by first | assumption | omega | (simp only [i64in] at *; omega)) ?_)
      exact go_lessG hX [] [] [3] _ _ (by rfl) (by rfl) (by simp [El2, El3, El4, Ev, El, Eb, Et, h1, h2a, h2b, h2c, h2d, h3, h8, h10]) (by simp [El2, El3, El4, Ev, El, Eb, Et, h1, h2a, h2b, h2c, h2d, h3, h8, h10]) (by rfl) (by rfl) (by simp [El2, El3, El4, Ev, El, Eb, Et, h1, h2a, h2b, h2c, h2d, h3, h8, h10]) (ih1 (i + 1) (ys ++ [(schema_Type.mk e.Name ys2)]) hsh)
  · rw [if_neg h1] at hsh; replace h1 := neg_b h1
    simp only [Erun, Ek, Ev, El, Ea, Eu, hX.res, hX.Q, List.getElem?_cons_zero, List.getElem?_cons_succ, seval, Et, h1]
    repeat (with_reducible refine And.intro (by first | assumption | omega | (simp only [i64in] at *; omega)) ?_)
    obtain rfl := Option.some.inj hsh
    refine post_give [0] ?_
    simp [El2, El3, El4, Ev, El, Eb, Et, h1]
set_option maxHeartbeats 8000000 in
theorem c_gate_Gate_Least (N : Nat) (g : gate_Gate) (r : Int) (hsh : s_gate_Gate_Least N g = some r) : CRes prog 22 [gate_Gate.av g] .nil (.ret (.v (.int .i64 r))) .nil := by
  refine is_gate_Gate_Least.run hm 1000 _ rfl fun X hX => ?_
  simp only [List.length_cons, List.length_nil, List.replicate, Nat.reduceAdd, Nat.reduceSub, El, Et]
  rw [s_gate_Gate_Least] at hsh
  simp only [Erun, Ek, Ev, El, Ea, Eu, hX.res, hX.Q, List.getElem?_cons_zero, List.getElem?_cons_succ, seval, Et]
  repeat (with_reducible refine And.intro (by first | assumption | omega | (simp only [i64in] at *; omega)) ?_)
  refine go_lessG hX [] [] [] _ _ (by rfl) (by rfl) (by simp [El2, El3, El4, Ev, El, Eb, Et]) (by simp [El2, El3, El4, Ev, El, Eb, Et]) (by rfl) (by rfl) (by simp [El2, El3, El4, Ev, El, Eb, Et]) (go_loop2 (fun (least : Int) (x : Int) => ([.any, .any, .any, .v (.int .i64 least), .any, .any, .any, .sl 3 (List.map gate_Source.av g.L), .v (.int .i64 (List.length g.L : Int)), .v (.int .i64 x)] ++ List.replicate 12 .any)) (fun (least : Int) (x : Int) => ⟨[], []⟩) 1000 (fun next1 ih1 least x hsh => ?_) N 1099511627777 0 hsh)
  simp only [List.replicate, El] at ih1 ⊢
  rw [s_gate_Gate_Least_1] at hsh
  simp only [Erun, Ek, Ev, El, Ea, Eu, hX.res, hX.Q, List.getElem?_cons_zero, List.getElem?_cons_succ, seval, Et]
  repeat (with_reducible refine And.intro (by first | assumption | omega | (simp only [i64in] at *; omega)) ?_)
  by_cases h1 : (decide (x < (List.length g.L : Int))) = true
  · rw [if_pos h1] at hsh
    obtain ⟨e, h2x, hsh⟩ := Option.bind_eq_some_iff.1 hsh
    obtain ⟨h2a, h2b, h2c, h2d⟩ := ix_some h2x
    simp only [Erun, Ek, Ev, El, Ea, Eu, hX.res, hX.Q, List.getElem?_cons_zero, List.getElem?_cons_succ, seval, Et, h1, h2a, h2b, h2c, h2d]
    repeat (with_reducible refine And.intro (by first | assumption | omega | (simp only [i64in] at *; omega)) ?_)
    by_cases h3 : e.Closed = true
    · rw [if_pos h3] at hsh
      obtain ⟨h4, hsh⟩ := guard_some hsh
      simp only [Erun, Ek, Ev, El, Ea, Eu, hX.res, hX.Q, List.getElem?_cons_zero, List.getElem?_cons_succ, seval, Et, h1, h2a, h2b, h2c, h2d, h3, h4]
      repeat (with_reducible refine And.intro (by first | assumption | omega | (simp only [i64in] at *; omega)) ?_)
      exact go_lessG hX [] [] [] _ _ (by rfl) (by rfl) (by simp [El2, El3, El4, Ev, El, Eb, Et, h1, h2a, h2b, h2c, h2d, h3, h4]) (by simp [El2, El3, El4, Ev, El, Eb, Et, h1, h2a, h2b, h2c, h2d, h3, h4]) (by rfl) (by rfl) (by simp [El2, El3, El4, Ev, El, Eb, Et, h1, h2a, h2b, h2c, h2d, h3, h4]) (ih1 least (x + 1) hsh)
    · rw [if_neg h3] at hsh; replace h3 := neg_b h3
      simp only [Erun, Ek, Ev, El, Ea, Eu, hX.res, hX.Q, List.getElem?_cons_zero, List.getElem?_cons_succ, seval, Et, h1, h2a, h2b, h2c, h2d, h3]
      repeat (with_reducible refine And.intro (by first | assumption | omega | (simp only [i64in] at *; omega)) ?_)
      refine (vraw_pure (fun _ => by rw [hX.P]; exact os_min rfl rfl) (r := .v (.int .i64 (min least e.Front))) ?_)
      refine run_go 1000 _ _ _ _ ?_
      obtain ⟨h5, hsh⟩ := guard_some hsh
      simp only [Erun, Ek, Ev, El, Ea, Eu, hX.res, hX.Q, List.getElem?_cons_zero, List.getElem?_cons_succ, seval, Et, h1, h2a, h2b, h2c, h2d, h3, h5]
      repeat (with_reducible refine And.intro (by first | assumption | omega | (simp only [i64in] at *; omega)) ?_)
      exact go_lessG hX [] [] [] _ _ (by rfl) (by rfl) (by simp [El2, El3, El4, Ev, El, Eb, Et, h1, h2a, h2b, h2c, h2d, h3, h5]) (by simp [El2, El3, El4, Ev, El, Eb, Et, h1, h2a, h2b, h2c, h2d, h3, h5]) (by rfl) (by rfl) (by simp [El2, El3, El4, Ev, El, Eb, Et, h1, h2a, h2b, h2c, h2d, h3, h5]) (ih1 (min least e.Front) (x + 1) hsh)
  · rw [if_neg h1] at hsh; replace h1 := neg_b h1
    simp only [Erun, Ek, Ev, El, Ea, Eu, hX.res, hX.Q, List.getElem?_cons_zero, List.getElem?_cons_succ, seval, Et, h1]
    repeat (with_reducible refine And.intro (by first | assumption | omega | (simp only [i64in] at *; omega)) ?_)
    obtain rfl := Option.some.inj hsh
    refine post_give [] ?_
    simp [El2, El3, El4, Ev, El, Eb, Et, h1]
set_option maxHeartbeats 8000000 in
theorem c_ref04_Word (N : Nat) (kind : Int) (r : List UInt8) (hsh : s_ref04_Word N kind = some r) : CRes prog 65 [.v (.int .u8 kind)] .nil (.ret (.v (.string (bs r)))) .nil := by
  refine is_ref04_Word.run hm 1000 _ rfl fun X hX => ?_
  simp only [List.length_cons, List.length_nil, List.replicate, Nat.reduceAdd, Nat.reduceSub, El, Et]
  rw [s_ref04_Word] at hsh
  simp only [Erun, Ek, Ev, El, Ea, Eu, hX.res, hX.Q, List.getElem?_cons_zero, List.getElem?_cons_succ, seval, Et]
  repeat (with_reducible refine And.intro (by first | assumption | omega | (simp only [i64in] at *; omega)) ?_)
  by_cases h1 : (kind == 1) = true
  · rw [if_pos h1] at hsh
    simp only [Erun, Ek, Ev, El, Ea, Eu, hX.res, hX.Q, List.getElem?_cons_zero, List.getElem?_cons_succ, seval, Et, h1]
    repeat (with_reducible refine And.intro (by first | assumption | omega | (simp only [i64in] at *; omega)) ?_)
    obtain rfl := Option.some.inj hsh
    refine post_give [] ?_
    simp [El2, El3, El4, Ev, El, Eb, Et, h1]
  · rw [if_neg h1] at hsh; replace h1 := neg_b h1
    simp only [Erun, Ek, Ev, El, Ea, Eu, hX.res, hX.Q, List.getElem?_cons_zero, List.getElem?_cons_succ, seval, Et, h1]
    repeat (with_reducible refine And.intro (by first | assumption | omega | (simp only [i64in] at *; omega)) ?_)
    by_cases h2 : (kind == 2) = true
    · rw [if_pos h2] at hsh
      simp only [Erun, Ek, Ev, El, Ea, Eu, hX.res, hX.Q, List.getElem?_cons_zero, List.getElem?_cons_succ, seval, Et, h1, h2]
      repeat (with_reducible refine And.intro (by first | assumption | omega | (simp only [i64in] at *; omega)) ?_)
      obtain rfl := Option.some.inj hsh
      refine post_give [] ?_
      simp [El2, El3, El4, Ev, El, Eb, Et, h1, h2]
    · rw [if_neg h2] at hsh; replace h2 := neg_b h2
      simp only [Erun, Ek, Ev, El, Ea, Eu, hX.res, hX.Q, List.getElem?_cons_zero, List.getElem?_cons_succ, seval, Et, h1, h2]
      repeat (with_reducible refine And.intro (by first | assumption | omega | (simp only [i64in] at *; omega)) ?_)
      by_cases h3 : (kind == 3) = true
      · rw [if_pos h3] at hsh
        simp only [Erun, Ek, Ev, El, Ea, Eu, hX.res, hX.Q, List.getElem?_cons_zero, List.getElem?_cons_succ, seval, Et, h1, h2, h3]
        repeat (with_reducible refine And.intro (by first | assumption | omega | (simp only [i64in] at *; omega)) ?_)
        obtain rfl := Option.some.inj hsh
        refine post_give [] ?_
        simp [El2, El3, El4, Ev, El, Eb, Et, h1, h2, h3]
      · rw [if_neg h3] at hsh; replace h3 := neg_b h3
        simp only [Erun, Ek, Ev, El, Ea, Eu, hX.res, hX.Q, List.getElem?_cons_zero, List.getElem?_cons_succ, seval, Et, h1, h2, h3]
        repeat (with_reducible refine And.intro (by first | assumption | omega | (simp only [i64in] at *; omega)) ?_)
        by_cases h4 : (kind == 4) = true
        · rw [if_pos h4] at hsh
          simp only [Erun, Ek, Ev, El, Ea, Eu, hX.res, hX.Q, List.getElem?_cons_zero, List.getElem?_cons_succ, seval, Et, h1, h2, h3, h4]
          repeat (with_reducible refine And.intro (by first | assumption | omega | (simp only [i64in] at *; omega)) ?_)
          obtain rfl := Option.some.inj hsh
          refine post_give [] ?_
          simp [El2, El3, El4, Ev, El, Eb, Et, h1, h2, h3, h4]
        · rw [if_neg h4] at hsh; replace h4 := neg_b h4
          simp only [Erun, Ek, Ev, El, Ea, Eu, hX.res, hX.Q, List.getElem?_cons_zero, List.getElem?_cons_succ, seval, Et, h1, h2, h3, h4]
          repeat (with_reducible refine And.intro (by first | assumption | omega | (simp only [i64in] at *; omega)) ?_)
          obtain rfl := Option.some.inj hsh
          refine post_give [] ?_
          simp [El2, El3, El4, Ev, El, Eb, Et, h1, h2, h3, h4]
set_option maxHeartbeats 8000000 in
theorem c_ref32_open (N : Nat) (g : gate_Gate) (s : Int) (r : Int) (hsh : s_ref32_open N g s = some r) : CRes prog 37 [gate_Gate.av g, .v (.int .i64 s)] .nil (.ret (.v (.int .i64 r))) .nil := by
  refine is_ref32_open.run hm 1000 _ rfl fun X hX => ?_
  simp only [List.length_cons, List.length_nil, List.replicate, Nat.reduceAdd, Nat.reduceSub, El, Et]
  rw [s_ref32_open] at hsh
  simp only [Erun, Ek, Ev, El, Ea, Eu, hX.res, hX.Q, List.getElem?_cons_zero, List.getElem?_cons_succ, seval, Et]
  repeat (with_reducible refine And.intro (by first | assumption | omega | (simp only [i64in] at *; omega)) ?_)
  by_cases h1 : (decide (s < 0)) = true
  · rw [if_pos h1] at hsh
    simp only [Erun, Ek, Ev, El, Ea, Eu, hX.res, hX.Q, List.getElem?_cons_zero, List.getElem?_cons_succ, seval, Et, h1]
    repeat (with_reducible refine And.intro (by first | assumption | omega | (simp only [i64in] at *; omega)) ?_)
    obtain rfl := Option.some.inj hsh
    refine post_give [] ?_
    simp [El2, El3, El4, Ev, El, Eb, Et, h1]
  · rw [if_neg h1] at hsh; replace h1 := neg_b h1
    simp only [Erun, Ek, Ev, El, Ea, Eu, hX.res, hX.Q, List.getElem?_cons_zero, List.getElem?_cons_succ, seval, Et, h1]
    repeat (with_reducible refine And.intro (by first | assumption | omega | (simp only [i64in] at *; omega)) ?_)
    by_cases h2 : (decide (s ≥ (List.length g.L : Int))) = true
    · rw [if_pos h2] at hsh
      simp only [Erun, Ek, Ev, El, Ea, Eu, hX.res, hX.Q, List.getElem?_cons_zero, List.getElem?_cons_succ, seval, Et, h1, h2]
      repeat (with_reducible refine And.intro (by first | assumption | omega | (simp only [i64in] at *; omega)) ?_)
      obtain rfl := Option.some.inj hsh
      refine post_give [] ?_
      simp [El2, El3, El4, Ev, El, Eb, Et, h1, h2]
    · rw [if_neg h2] at hsh; replace h2 := neg_b h2
      obtain ⟨e, h3x, hsh⟩ := Option.bind_eq_some_iff.1 hsh
      obtain ⟨h3a, h3b, h3c, h3d⟩ := ix_some h3x
      simp only [Erun, Ek, Ev, El, Ea, Eu, hX.res, hX.Q, List.getElem?_cons_zero, List.getElem?_cons_succ, seval, Et, h1, h2, h3a, h3b, h3c, h3d]
      repeat (with_reducible refine And.intro (by first | assumption | omega | (simp only [i64in] at *; omega)) ?_)
      by_cases h4 : e.Closed = true
      · rw [if_pos h4] at hsh
        simp only [Erun, Ek, Ev, El, Ea, Eu, hX.res, hX.Q, List.getElem?_cons_zero, List.getElem?_cons_succ, seval, Et, h1, h2, h3a, h3b, h3c, h3d, h4]
        repeat (with_reducible refine And.intro (by first | assumption | omega | (simp only [i64in] at *; omega)) ?_)
        obtain rfl := Option.some.inj hsh
        refine post_give [] ?_
        simp [El2, El3, El4, Ev, El, Eb, Et, h1, h2, h3a, h3b, h3c, h3d, h4]
      · rw [if_neg h4] at hsh; replace h4 := neg_b h4
        simp only [Erun, Ek, Ev, El, Ea, Eu, hX.res, hX.Q, List.getElem?_cons_zero, List.getElem?_cons_succ, seval, Et, h1, h2, h3a, h3b, h3c, h3d, h4]
        repeat (with_reducible refine And.intro (by first | assumption | omega | (simp only [i64in] at *; omega)) ?_)
        obtain rfl := Option.some.inj hsh
        refine post_give [] ?_
        simp [El2, El3, El4, Ev, El, Eb, Et, h1, h2, h3a, h3b, h3c, h3d, h4]
set_option maxHeartbeats 8000000 in
theorem c_slices_Clone_gate_Source_own (N : Nat) (s : List gate_Source) (r : List gate_Source) (hsh : s_slices_Clone_gate_Source_own N s = some r) : CRes prog 54 [.sl 3 (List.map gate_Source.av s)] ⟨[], []⟩ (.ret (.own 0)) ⟨[], [.live 3 (List.map gate_Source.av r)]⟩ := by
  refine is_slices_Clone_gate_Source.run hm 1000 _ rfl fun X hX => ?_
  simp only [List.length_cons, List.length_nil, List.replicate, Nat.reduceAdd, Nat.reduceSub, El, Et]
  rw [s_slices_Clone_gate_Source_own] at hsh
  simp only [Erun, Ek, Ev, El, Ea, Eu, hX.res, hX.Q, List.getElem?_cons_zero, List.getElem?_cons_succ, seval, Et]
  repeat (with_reducible refine And.intro (by first | assumption | omega | (simp only [i64in] at *; omega)) ?_)
  refine vraw_alt (by rw [hX.P]; exact osn_nil (ne := false) (e := 81) rfl (by kernel_rfl) rfl) (fun h1 => ?_) (fun _ => ?_)
  · replace h1 : s = [] := by simpa using h1
    have hsh : (some []) = some r := by simpa [h1] using hsh
    refine run_go 1000 _ _ _ _ ?_
    simp only [Erun, Ek, Ev, El, Ea, Eu, hX.res, hX.Q, List.getElem?_cons_zero, List.getElem?_cons_succ, seval, Et, h1]
    repeat (with_reducible refine And.intro (by first | assumption | omega | (simp only [i64in] at *; omega)) ?_)
    obtain rfl := Option.some.inj hsh
    exact post_emp 3 [] [] [0] (by rfl) (by rfl) (by simp [El2, El3, El4, Ev, El, Eb, Et, h1]) (by simp [El2, El3, El4, Ev, El, Eb, Et, h1]) (by rfl) (by rfl) (by simp [El2, El3, El4, Ev, El, Eb, Et, h1])
  · refine run_go 1000 _ _ _ _ ?_
    obtain ⟨h2, hsh⟩ := guard_some hsh
    simp only [Erun, Ek, Ev, El, Ea, Eu, hX.res, hX.Q, List.getElem?_cons_zero, List.getElem?_cons_succ, seval, Et, h2]
    repeat (with_reducible refine And.intro (by first | assumption | omega | (simp only [i64in] at *; omega)) ?_)
    obtain rfl := Option.some.inj hsh
    exact post_all [] [] [1] (by rfl) (by rfl) (by simp [El2, El3, El4, Ev, El, Eb, Et, h2]) (by simp [El2, El3, El4, Ev, El, Eb, Et, h2]) (by rfl) (by rfl) (by simp [El2, El3, El4, Ev, El, Eb, Et, h2])
set_option maxHeartbeats 8000000 in
theorem c_schema_letter (N : Nat) (c : Int) (r : Bool) (hsh : s_schema_letter N c = some r) : CRes prog 72 [.v (.int .u8 c)] .nil (.ret (.v (.bool r))) .nil := by
  refine is_schema_letter.run hm 1000 _ rfl fun X hX => ?_
  simp only [List.length_cons, List.length_nil, List.replicate, Nat.reduceAdd, Nat.reduceSub, El, Et]
  rw [s_schema_letter] at hsh
  simp only [Erun, Ek, Ev, El, Ea, Eu, hX.res, hX.Q, List.getElem?_cons_zero, List.getElem?_cons_succ, seval, Et]
  repeat (with_reducible refine And.intro (by first | assumption | omega | (simp only [i64in] at *; omega)) ?_)
  by_cases h1 : (decide (97 ≤ c)) = true
  · rw [if_pos h1] at hsh
    simp only [Erun, Ek, Ev, El, Ea, Eu, hX.res, hX.Q, List.getElem?_cons_zero, List.getElem?_cons_succ, seval, Et, h1]
    repeat (with_reducible refine And.intro (by first | assumption | omega | (simp only [i64in] at *; omega)) ?_)
    obtain rfl := Option.some.inj hsh
    refine post_give [] ?_
    simp [El2, El3, El4, Ev, El, Eb, Et, h1]
  · rw [if_neg h1] at hsh; replace h1 := neg_b h1
    simp only [Erun, Ek, Ev, El, Ea, Eu, hX.res, hX.Q, List.getElem?_cons_zero, List.getElem?_cons_succ, seval, Et, h1]
    repeat (with_reducible refine And.intro (by first | assumption | omega | (simp only [i64in] at *; omega)) ?_)
    obtain rfl := Option.some.inj hsh
    refine post_give [] ?_
    simp [El2, El3, El4, Ev, El, Eb, Et, h1]
set_option maxHeartbeats 8000000 in
theorem c_real_of (N : Nat) (u : Int) (r : Nat) (hsh : s_real_of N u = some r) : CRes prog 86 [.v (.int .u64 u)] .nil (.ret (.v (.float .f64 r))) .nil := by
  refine is_real_of.run hm 1000 _ rfl fun X hX => ?_
  simp only [List.length_cons, List.length_nil, List.replicate, Nat.reduceAdd, Nat.reduceSub, El, Et]
  rw [s_real_of] at hsh
  simp only [Erun, Ek, Ev, El, Ea, Eu, hX.res, hX.Q, List.getElem?_cons_zero, List.getElem?_cons_succ, seval, Et]
  repeat (with_reducible refine And.intro (by first | assumption | omega | (simp only [i64in] at *; omega)) ?_)
  refine .inr (vraw_pure (fun _ => by rw [hX.P]; exact os_frombits (ExtIs.mk' f91 (by kernel_rfl) (by kernel_rfl) (by kernel_rfl) (by kernel_rfl) (by kernel_rfl)) rfl) (r := .v (.float .f64 (Int.toNat u))) ?_)
  refine run_go 1000 _ _ _ _ ?_
  simp only [Erun, Ek, Ev, El, Ea, Eu, hX.res, hX.Q, List.getElem?_cons_zero, List.getElem?_cons_succ, seval, Et]
  repeat (with_reducible refine And.intro (by first | assumption | omega | (simp only [i64in] at *; omega)) ?_)
  obtain rfl := Option.some.inj hsh
  refine post_give [] ?_
  simp [El2, El3, El4, Ev, El, Eb, Et]
set_option maxHeartbeats 8000000 in
theorem c_value_number_whole (N : Nat) (n : Int) (r : value_Value) (hsh : s_value_number_whole N n = some r) : CRes prog 110 [.v (.int .i64 n)] .nil (.ret (value_Value.av r)) .nil := by
  refine is_value_number_whole.run hm 1000 _ rfl fun X hX => ?_
  simp only [List.length_cons, List.length_nil, List.replicate, Nat.reduceAdd, Nat.reduceSub, El, Et]
  rw [s_value_number_whole] at hsh
  simp only [Erun, Ek, Ev, El, Ea, Eu, hX.res, hX.Q, List.getElem?_cons_zero, List.getElem?_cons_succ, seval, Et]
  repeat (with_reducible refine And.intro (by first | assumption | omega | (simp only [i64in] at *; omega)) ?_)
  obtain rfl := Option.some.inj hsh
  refine post_give [] ?_
  simp [El2, El3, El4, Ev, El, Eb, Et]
end Go.Proofs.YtfblfapkpieckaaDoor.W
namespace Go.Proofs.YtfblfapkpieckaaDoor.W
open Go
open Go.Proofs.Tryd
set_option linter.unusedSimpArgs false
set_option linter.unusedVariables false
set_option maxHeartbeats 8000000 in
theorem c_ref06_Name (N : Nat) (s : List UInt8) (r : Bool) (hsh : s_ref06_Name N s = some r) : CRes prog 64 [.v (.string (bs s))] .nil (.ret (.v (.bool r))) .nil := by
  refine is_ref06_Name.run hm 1000 _ rfl fun X hX => ?_
  simp only [List.length_cons, List.length_nil, List.replicate, Nat.reduceAdd, Nat.reduceSub, El, Et]
  rw [s_ref06_Name] at hsh
  simp only [Erun, Ek, Ev, El, Ea, Eu, hX.res, hX.Q, List.getElem?_cons_zero, List.getElem?_cons_succ, seval, Et]
  repeat (with_reducible refine And.intro (by first | assumption | omega | (simp only [i64in] at *; omega)) ?_)
  by_cases h1 : (decide ((List.length s : Int) < 1)) = true
  · rw [if_pos h1] at hsh
    simp only [Erun, Ek, Ev, El, Ea, Eu, hX.res, hX.Q, List.getElem?_cons_zero, List.getElem?_cons_succ, seval, Et, h1]
    repeat (with_reducible refine And.intro (by first | assumption | omega | (simp only [i64in] at *; omega)) ?_)
    obtain rfl := Option.some.inj hsh
    refine post_give [] ?_
    simp [El2, El3, El4, Ev, El, Eb, Et, h1]
  · rw [if_neg h1] at hsh; replace h1 := neg_b h1
    simp only [Erun, Ek, Ev, El, Ea, Eu, hX.res, hX.Q, List.getElem?_cons_zero, List.getElem?_cons_succ, seval, Et, h1]
    repeat (with_reducible refine And.intro (by first | assumption | omega | (simp only [i64in] at *; omega)) ?_)
    by_cases h2 : (decide ((List.length s : Int) > 12)) = true
    · rw [if_pos h2] at hsh
      simp only [Erun, Ek, Ev, El, Ea, Eu, hX.res, hX.Q, List.getElem?_cons_zero, List.getElem?_cons_succ, seval, Et, h1, h2]
      repeat (with_reducible refine And.intro (by first | assumption | omega | (simp only [i64in] at *; omega)) ?_)
      obtain rfl := Option.some.inj hsh
      refine post_give [] ?_
      simp [El2, El3, El4, Ev, El, Eb, Et, h1, h2]
    · rw [if_neg h2] at hsh; replace h2 := neg_b h2
      simp only [Erun, Ek, Ev, El, Ea, Eu, hX.res, hX.Q, List.getElem?_cons_zero, List.getElem?_cons_succ, seval, Et, h1, h2]
      repeat (with_reducible refine And.intro (by first | assumption | omega | (simp only [i64in] at *; omega)) ?_)
      obtain ⟨rese, h3, hsh⟩ := Option.bind_eq_some_iff.1 hsh
      have h3k := c_ref06_Reserved N s rese h3
      rw [← hX.P] at h3k
      refine .inl (vcall_pure _ (by rw [hX.P]; exact is_ref06_Reserved.enters) h3k (fun H => (by simp [El2, El3, El4, Ev, El, Eb, Et, h1, h2])) ?_)
      refine run_go 1000 _ _ _ _ ?_
      simp only [Erun, Ek, Ev, El, Ea, Eu, hX.res, hX.Q, List.getElem?_cons_zero, List.getElem?_cons_succ, seval, Et, h1, h2]
      repeat (with_reducible refine And.intro (by first | assumption | omega | (simp only [i64in] at *; omega)) ?_)
      by_cases h4 : rese = true
      · rw [if_pos h4] at hsh
        simp only [Erun, Ek, Ev, El, Ea, Eu, hX.res, hX.Q, List.getElem?_cons_zero, List.getElem?_cons_succ, seval, Et, h1, h2, h4]
        repeat (with_reducible refine And.intro (by first | assumption | omega | (simp only [i64in] at *; omega)) ?_)
        obtain rfl := Option.some.inj hsh
        refine post_give [] ?_
        simp [El2, El3, El4, Ev, El, Eb, Et, h1, h2, h4]
      · rw [if_neg h4] at hsh; replace h4 := neg_b h4
        simp only [Erun, Ek, Ev, El, Ea, Eu, hX.res, hX.Q, List.getElem?_cons_zero, List.getElem?_cons_succ, seval, Et, h1, h2, h4]
        repeat (with_reducible refine And.intro (by first | assumption | omega | (simp only [i64in] at *; omega)) ?_)
        refine go_lessG hX [] [] [] _ _ (by rfl) (by rfl) (by simp [El2, El3, El4, Ev, El, Eb, Et, h1, h2, h4]) (by simp [El2, El3, El4, Ev, El, Eb, Et, h1, h2, h4]) (by rfl) (by rfl) (by simp [El2, El3, El4, Ev, El, Eb, Et, h1, h2, h4]) (go_loop1 (fun (i : Int) => ([.v (.string (bs s)), .any, .any, .v (.int .i64 i)] ++ List.replicate 56 .any)) (fun (i : Int) => ⟨[], []⟩) 1000 (fun next1 ih1 i hsh => ?_) N 0 hsh)
        simp only [List.replicate, El] at ih1 ⊢
        rw [s_ref06_Name_1] at hsh
        simp only [Erun, Ek, Ev, El, Ea, Eu, hX.res, hX.Q, List.getElem?_cons_zero, List.getElem?_cons_succ, seval, Et, h1, h2, h4]
        repeat (with_reducible refine And.intro (by first | assumption | omega | (simp only [i64in] at *; omega)) ?_)
        by_cases h5 : (decide (i < (List.length s : Int))) = true
        · rw [if_pos h5] at hsh
          obtain ⟨c, h6x, hsh⟩ := Option.bind_eq_some_iff.1 hsh
          obtain ⟨h6a, h6b, h6c, h6d⟩ := ix_some h6x
          simp only [Erun, Ek, Ev, El, Ea, Eu, hX.res, hX.Q, List.getElem?_cons_zero, List.getElem?_cons_succ, seval, Et, h1, h2, h4, h5, h6a, h6b, h6c, h6d]
          repeat (with_reducible refine And.intro (by first | assumption | omega | (simp only [i64in] at *; omega)) ?_)
          by_cases h7 : (decide ((UInt8.toNat c : Int) ≥ 97)) = true
          · rw [if_pos h7] at hsh
            have h8 : (decide ((UInt8.toNat c : Int) ≥ 48)) = true := decide_eq_true (by have := of_decide_eq_true h7; omega)
            have h9 : (decide ((UInt8.toNat c : Int) ≤ 57)) = false := decide_eq_false (by have := of_decide_eq_true h7; omega)
            simp only [Erun, Ek, Ev, El, Ea, Eu, hX.res, hX.Q, List.getElem?_cons_zero, List.getElem?_cons_succ, seval, Et, h1, h2, h4, h5, h6a, h6b, h6c, h6d, h7, h8, h9]
            repeat (with_reducible refine And.intro (by first | assumption | omega | (simp only [i64in] at *; omega)) ?_)
            by_cases h10 : (decide ((UInt8.toNat c : Int) ≤ 122)) = true
            · rw [if_pos h10] at hsh
              obtain ⟨h11, hsh⟩ := guard_some hsh
              simp only [Erun, Ek, Ev, El, Ea, Eu, hX.res, hX.Q, List.getElem?_cons_zero, List.getElem?_cons_succ, seval, Et, h1, h2, h4, h5, h6a, h6b, h6c, h6d, h7, h8, h9, h10, h11]
              repeat (with_reducible refine And.intro (by first | assumption | omega | (simp only [i64in] at *; omega)) ?_)
              exact go_lessG hX [] [] [] _ _ (by rfl) (by rfl) (by simp [El2, El3, El4, Ev, El, Eb, Et, h1, h2, h4, h5, h6a, h6b, h6c, h6d, h7, h8, h9, h10, h11]) (by simp [El2, El3, El4, Ev, El, Eb, Et, h1, h2, h4, h5, h6a, h6b, h6c, h6d, h7, h8, h9, h10, h11]) (by rfl) (by rfl) (by simp [El2, El3, El4, Ev, El, Eb, Et, h1, h2, h4, h5, h6a, h6b, h6c, h6d, h7, h8, h9, h10, h11]) (ih1 (i + 1) hsh)
            · rw [if_neg h10] at hsh; replace h10 := neg_b h10
              simp only [Erun, Ek, Ev, El, Ea, Eu, hX.res, hX.Q, List.getElem?_cons_zero, List.getElem?_cons_succ, seval, Et, h1, h2, h4, h5, h6a, h6b, h6c, h6d, h7, h8, h9, h10]
              repeat (with_reducible refine And.intro (by first | assumption | omega | (simp only [i64in] at *; omega)) ?_)
              by_cases h12 : (i == 0) = true
              · rw [if_pos h12] at hsh
                simp only [Erun, Ek, Ev, El, Ea, Eu, hX.res, hX.Q, List.getElem?_cons_zero, List.getElem?_cons_succ, seval, Et, h1, h2, h4, h5, h6a, h6b, h6c, h6d, h7, h8, h9, h10, h12]
                repeat (with_reducible refine And.intro (by first | assumption | omega | (simp only [i64in] at *; omega)) ?_)
                obtain rfl := Option.some.inj hsh
                refine post_give [] ?_
                simp [El2, El3, El4, Ev, El, Eb, Et, h1, h2, h4, h5, h6a, h6b, h6c, h6d, h7, h8, h9, h10, h12]
              · rw [if_neg h12] at hsh; replace h12 := neg_b h12
                have h13 : ((UInt8.toNat c : Int) == 95) = false := beq_eq_false_iff_ne.2 (by have := of_decide_eq_true h7; have := of_decide_eq_false h10; omega)
                simp only [Erun, Ek, Ev, El, Ea, Eu, hX.res, hX.Q, List.getElem?_cons_zero, List.getElem?_cons_succ, seval, Et, h1, h2, h4, h5, h6a, h6b, h6c, h6d, h7, h8, h9, h10, h12, h13]
                repeat (with_reducible refine And.intro (by first | assumption | omega | (simp only [i64in] at *; omega)) ?_)
                obtain rfl := Option.some.inj hsh
                refine post_give [] ?_
                simp [El2, El3, El4, Ev, El, Eb, Et, h1, h2, h4, h5, h6a, h6b, h6c, h6d, h7, h8, h9, h10, h12, h13]
          · rw [if_neg h7] at hsh; replace h7 := neg_b h7
            simp only [Erun, Ek, Ev, El, Ea, Eu, hX.res, hX.Q, List.getElem?_cons_zero, List.getElem?_cons_succ, seval, Et, h1, h2, h4, h5, h6a, h6b, h6c, h6d, h7]
            repeat (with_reducible refine And.intro (by first | assumption | omega | (simp only [i64in] at *; omega)) ?_)
            by_cases h14 : (decide ((UInt8.toNat c : Int) ≥ 48)) = true
            · rw [if_pos h14] at hsh
              simp only [Erun, Ek, Ev, El, Ea, Eu, hX.res, hX.Q, List.getElem?_cons_zero, List.getElem?_cons_succ, seval, Et, h1, h2, h4, h5, h6a, h6b, h6c, h6d, h7, h14]
              repeat (with_reducible refine And.intro (by first | assumption | omega | (simp only [i64in] at *; omega)) ?_)
              by_cases h15 : (decide ((UInt8.toNat c : Int) ≤ 57)) = true
              · rw [if_pos h15] at hsh
                simp only [Erun, Ek, Ev, El, Ea, Eu, hX.res, hX.Q, List.getElem?_cons_zero, List.getElem?_cons_succ, seval, Et, h1, h2, h4, h5, h6a, h6b, h6c, h6d, h7, h14, h15]
                repeat (with_reducible refine And.intro (by first | assumption | omega | (simp only [i64in] at *; omega)) ?_)
                by_cases h16 : (i == 0) = true
                · rw [if_pos h16] at hsh
                  simp only [Erun, Ek, Ev, El, Ea, Eu, hX.res, hX.Q, List.getElem?_cons_zero, List.getElem?_cons_succ, seval, Et, h1, h2, h4, h5, h6a, h6b, h6c, h6d, h7, h14, h15, h16]
                  repeat (with_reducible refine And.intro (by first | assumption | omega | (simp only [i64in] at *; omega)) ?_)
                  obtain rfl := Option.some.inj hsh
                  refine post_give [] ?_
                  simp [El2, El3, El4, Ev, El, Eb, Et, h1, h2, h4, h5, h6a, h6b, h6c, h6d, h7, h14, h15, h16]
                · rw [if_neg h16] at hsh; replace h16 := neg_b h16
                  obtain ⟨h17, hsh⟩ := guard_some hsh
                  simp only [Erun, Ek, Ev, El, Ea, Eu, hX.res, hX.Q, List.getElem?_cons_zero, List.getElem?_cons_succ, seval, Et, h1, h2, h4, h5, h6a, h6b, h6c, h6d, h7, h14, h15, h16, h17]
                  repeat (with_reducible refine And.intro (by first | assumption | omega | (simp only [i64in] at *; omega)) ?_)
                  exact go_lessG hX [] [] [] _ _ (by rfl) (by rfl) (by simp [El2, El3, El4, Ev, El, Eb, Et, h1, h2, h4, h5, h6a, h6b, h6c, h6d, h7, h14, h15, h16, h17]) (by simp [El2, El3, El4, Ev, El, Eb, Et, h1, h2, h4, h5, h6a, h6b, h6c, h6d, h7, h14, h15, h16, h17]) (by rfl) (by rfl) (by simp [El2, El3, El4, Ev, El, Eb, Et, h1, h2, h4, h5, h6a, h6b, h6c, h6d, h7, h14, h15, h16, h17]) (ih1 (i + 1) hsh)
              · rw [if_neg h15] at hsh; replace h15 := neg_b h15
                simp only [Erun, Ek, Ev, El, Ea, Eu, hX.res, hX.Q, List.getElem?_cons_zero, List.getElem?_cons_succ, seval, Et, h1, h2, h4, h5, h6a, h6b, h6c, h6d, h7, h14, h15]
                repeat (with_reducible refine And.intro (by first | assumption | omega | (simp only [i64in] at *; omega)) ?_)
                by_cases h18 : (i == 0) = true
                · rw [if_pos h18] at hsh
                  simp only [Erun, Ek, Ev, El, Ea, Eu, hX.res, hX.Q, List.getElem?_cons_zero, List.getElem?_cons_succ, seval, Et, h1, h2, h4, h5, h6a, h6b, h6c, h6d, h7, h14, h15, h18]
                  repeat (with_reducible refine And.intro (by first | assumption | omega | (simp only [i64in] at *; omega)) ?_)
                  obtain rfl := Option.some.inj hsh
                  refine post_give [] ?_
                  simp [El2, El3, El4, Ev, El, Eb, Et, h1, h2, h4, h5, h6a, h6b, h6c, h6d, h7, h14, h15, h18]
                · rw [if_neg h18] at hsh; replace h18 := neg_b h18
                  simp only [Erun, Ek, Ev, El, Ea, Eu, hX.res, hX.Q, List.getElem?_cons_zero, List.getElem?_cons_succ, seval, Et, h1, h2, h4, h5, h6a, h6b, h6c, h6d, h7, h14, h15, h18]
                  repeat (with_reducible refine And.intro (by first | assumption | omega | (simp only [i64in] at *; omega)) ?_)
                  by_cases h19 : ((UInt8.toNat c : Int) == 95) = true
                  · rw [if_pos h19] at hsh
                    obtain ⟨h20, hsh⟩ := guard_some hsh
                    simp only [Erun, Ek, Ev, El, Ea, Eu, hX.res, hX.Q, List.getElem?_cons_zero, List.getElem?_cons_succ, seval, Et, h1, h2, h4, h5, h6a, h6b, h6c, h6d, h7, h14, h15, h18, h19, h20]
                    repeat (with_reducible refine And.intro (by first | assumption | omega | (simp only [i64in] at *; omega)) ?_)
                    exact go_lessG hX [] [] [] _ _ (by rfl) (by rfl) (by simp [El2, El3, El4, Ev, El, Eb, Et, h1, h2, h4, h5, h6a, h6b, h6c, h6d, h7, h14, h15, h18, h19, h20]) (by simp [El2, El3, El4, Ev, El, Eb, Et, h1, h2, h4, h5, h6a, h6b, h6c, h6d, h7, h14, h15, h18, h19, h20]) (by rfl) (by rfl) (by simp [El2, El3, El4, Ev, El, Eb, Et, h1, h2, h4, h5, h6a, h6b, h6c, h6d, h7, h14, h15, h18, h19, h20]) (ih1 (i + 1) hsh)
                  · rw [if_neg h19] at hsh; replace h19 := neg_b h19
                    simp only [Erun, Ek, Ev, El, Ea, Eu, hX.res, hX.Q, List.getElem?_cons_zero, List.getElem?_cons_succ, seval, Et, h1, h2, h4, h5, h6a, h6b, h6c, h6d, h7, h14, h15, h18, h19]
                    repeat (with_reducible refine And.intro (by first | assumption | omega | (simp only [i64in] at *; omega)) ?_)
                    obtain rfl := Option.some.inj hsh
                    refine post_give [] ?_
                    simp [El2, El3, El4, Ev, El, Eb, Et, h1, h2, h4, h5, h6a, h6b, h6c, h6d, h7, h14, h15, h18, h19]
            · rw [if_neg h14] at hsh; replace h14 := neg_b h14
              simp only [Erun, Ek, Ev, El, Ea, Eu, hX.res, hX.Q, List.getElem?_cons_zero, List.getElem?_cons_succ, seval, Et, h1, h2, h4, h5, h6a, h6b, h6c, h6d, h7, h14]
              repeat (with_reducible refine And.intro (by first | assumption | omega | (simp only [i64in] at *; omega)) ?_)
              by_cases h21 : (i == 0) = true
              · rw [if_pos h21] at hsh
                simp only [Erun, Ek, Ev, El, Ea, Eu, hX.res, hX.Q, List.getElem?_cons_zero, List.getElem?_cons_succ, seval, Et, h1, h2, h4, h5, h6a, h6b, h6c, h6d, h7, h14, h21]
                repeat (with_reducible refine And.intro (by first | assumption | omega | (simp only [i64in] at *; omega)) ?_)
                obtain rfl := Option.some.inj hsh
                refine post_give [] ?_
                simp [El2, El3, El4, Ev, El, Eb, Et, h1, h2, h4, h5, h6a, h6b, h6c, h6d, h7, h14, h21]
              · rw [if_neg h21] at hsh; replace h21 := neg_b h21
                have h22 : ((UInt8.toNat c : Int) == 95) = false := beq_eq_false_iff_ne.2 (by have := of_decide_eq_false h7; have := of_decide_eq_false h14; omega)
                simp only [Erun, Ek, Ev, El, Ea, Eu, hX.res, hX.Q, List.getElem?_cons_zero, List.getElem?_cons_succ, seval, Et, h1, h2, h4, h5, h6a, h6b, h6c, h6d, h7, h14, h21, h22]
                repeat (with_reducible refine And.intro (by first | assumption | omega | (simp only [i64in] at *; omega)) ?_)
                obtain rfl := Option.some.inj hsh
                refine post_give [] ?_
                simp [El2, El3, El4, Ev, El, Eb, Et, h1, h2, h4, h5, h6a, h6b, h6c, h6d, h7, h14, h21, h22]
        · rw [if_neg h5] at hsh; replace h5 := neg_b h5
          simp only [Erun, Ek, Ev, El, Ea, Eu, hX.res, hX.Q, List.getElem?_cons_zero, List.getElem?_cons_succ, seval, Et, h1, h2, h4, h5]
          repeat (with_reducible refine And.intro (by first | assumption | omega | (simp only [i64in] at *; omega)) ?_)
          obtain rfl := Option.some.inj hsh
          refine post_give [] ?_
          simp [El2, El3, El4, Ev, El, Eb, Et, h1, h2, h4, h5]
set_option maxHeartbeats 8000000 in
theorem c_gate_Gate_turn_v637 (N : Nat) (g : gate_Gate) (s : Int) (y : Int) (r : gate_Gate) (hsh : s_gate_Gate_turn_v637 N g s y = some r) : CRes prog 38 [gate_Gate.av g, .v (.int .i64 s), .fn (.func 41) [] [.ptr 0 0]] ⟨[[.v (.int .i64 y)]], []⟩ (.ret (.agg [.sl 2 (List.map schema_Type.av r.Types), .sl 3 (List.map gate_Source.av r.L)])) ⟨[[.v (.int .i64 y)]], []⟩ := by
  refine is_gate_Gate_turn.run hm 1000 _ rfl fun X hX => ?_
  simp only [List.length_cons, List.length_nil, List.replicate, Nat.reduceAdd, Nat.reduceSub, El, Et]
  rw [s_gate_Gate_turn_v637] at hsh
  simp only [Erun, Ek, Ev, El, Ea, Eu, hX.res, hX.Q, List.getElem?_cons_zero, List.getElem?_cons_succ, seval, Et]
  repeat (with_reducible refine And.intro (by first | assumption | omega | (simp only [i64in] at *; omega)) ?_)
  obtain ⟨sour, h1, hsh⟩ := Option.bind_eq_some_iff.1 hsh
  have h1k := c_slices_Clone_gate_Source_own N g.L sour h1
  rw [← hX.P] at h1k
  refine .inl (vcall_lift [] [] [] _ (by rw [hX.P]; exact is_slices_Clone_gate_Source.enters) h1k (by simp [El2, El3, El4, Ev, El, Eb, Et]) (by simp [El2, El3, El4, Ev, El, Eb, Et]) (by rfl) (by rfl) (by rfl) (by simp [El2, El3, El4, Ev, El, Eb, Et]) ?_)
  simp only [Eu, El, Ev, Ea, Nat.reduceAdd, AH.nil]
  refine run_go 1000 _ _ _ _ ?_
  obtain ⟨e, h2x, hsh⟩ := Option.bind_eq_some_iff.1 hsh
  obtain ⟨h2a, h2b, h2c, h2d⟩ := ix_some h2x
  simp only [Erun, Ek, Ev, El, Ea, Eu, hX.res, hX.Q, List.getElem?_cons_zero, List.getElem?_cons_succ, seval, Et, h2a, h2b, h2c, h2d]
  repeat (with_reducible refine And.intro (by first | assumption | omega | (simp only [i64in] at *; omega)) ?_)
  obtain ⟨l, h3, hsh⟩ := Option.bind_eq_some_iff.1 hsh
  have h3k := c_gate_Gate_Advance_L1_v469 N s y sour l h3
  rw [← hX.P] at h3k
  refine (vcall_lift [] [0] [0] _ (by rw [hX.P]; exact is_gate_Gate_Advance_L1.enters) h3k (by simp [El2, El3, El4, Ev, El, Eb, Et, h2a, h2b, h2c, h2d]) (by simp [El2, El3, El4, Ev, El, Eb, Et, h2a, h2b, h2c, h2d]) (by rfl) (by rfl) (by rfl) (by simp [El2, El3, El4, Ev, El, Eb, Et, h2a, h2b, h2c, h2d]) ?_)
  simp only [Eu, El, Ev, Ea, Nat.reduceAdd, AH.nil]
  refine run_go 1000 _ _ _ _ ?_
  simp only [Erun, Ek, Ev, El, Ea, Eu, hX.res, hX.Q, List.getElem?_cons_zero, List.getElem?_cons_succ, seval, Et, h2a, h2b, h2c, h2d]
  repeat (with_reducible refine And.intro (by first | assumption | omega | (simp only [i64in] at *; omega)) ?_)
  obtain rfl := Option.some.inj hsh
  exact post_all [0] [0] [] (by rfl) (by rfl) (by simp [El2, El3, El4, Ev, El, Eb, Et, h2a, h2b, h2c, h2d]) (by simp [El2, El3, El4, Ev, El, Eb, Et, h2a, h2b, h2c, h2d]) (by rfl) (by rfl) (by simp [El2, El3, El4, Ev, El, Eb, Et, h2a, h2b, h2c, h2d])
set_option maxRecDepth 100000 in
set_option maxHeartbeats 8000000 in
theorem c_stringslite_Index_v724 (N : Nat) (s : List UInt8) (r : Int) (hsh : s_stringslite_Index_v724 N s = some r) : CRes prog 68 [.v (.string (bs s)), .v (.string (bs [32]))] .nil (.ret (.v (.int .i64 r))) .nil := by
  refine is_stringslite_Index.run hm 1000 _ rfl fun X hX => ?_
  simp only [List.length_cons, List.length_nil, List.replicate, Nat.reduceAdd, Nat.reduceSub, El, Et]
  rw [s_stringslite_Index_v724] at hsh
  simp only [Erun, Ek, Ev, El, Ea, Eu, hX.res, hX.Q, List.getElem?_cons_zero, List.getElem?_cons_succ, seval, Et]
  repeat (with_reducible refine And.intro (by first | assumption | omega | (simp only [i64in] at *; omega)) ?_)
  by_cases h1 : ([32] == s) = true
  · rw [if_pos h1] at hsh
    simp only [Erun, Ek, Ev, El, Ea, Eu, hX.res, hX.Q, List.getElem?_cons_zero, List.getElem?_cons_succ, seval, Et, h1]
    repeat (with_reducible refine And.intro (by first | assumption | omega | (simp only [i64in] at *; omega)) ?_)
    obtain rfl := Option.some.inj hsh
    refine post_give [] ?_
    simp [El2, El3, El4, Ev, El, Eb, Et, h1]
  · rw [if_neg h1] at hsh; replace h1 := neg_b h1
    simp only [Erun, Ek, Ev, El, Ea, Eu, hX.res, hX.Q, List.getElem?_cons_zero, List.getElem?_cons_succ, seval, Et, h1]
    repeat (with_reducible refine And.intro (by first | assumption | omega | (simp only [i64in] at *; omega)) ?_)
    obtain ⟨inde, h2, hsh⟩ := Option.bind_eq_some_iff.1 hsh
    have h2k := c_stringslite_IndexByte N s 32 inde h2
    rw [← hX.P] at h2k
    refine .inl (vcall_pure _ (by rw [hX.P]; exact is_stringslite_IndexByte.enters) h2k (fun H => (by simp [El2, El3, El4, Ev, El, Eb, Et, h1])) ?_)
    refine run_go 1000 _ _ _ _ ?_
    simp only [Erun, Ek, Ev, El, Ea, Eu, hX.res, hX.Q, List.getElem?_cons_zero, List.getElem?_cons_succ, seval, Et, h1]
    repeat (with_reducible refine And.intro (by first | assumption | omega | (simp only [i64in] at *; omega)) ?_)
    obtain rfl := Option.some.inj hsh
    refine post_give [] ?_
    simp [El2, El3, El4, Ev, El, Eb, Et, h1]
end Go.Proofs.YtfblfapkpieckaaDoor.W
namespace Go.Proofs.YtfblfapkpieckaaDoor.W
open Go
open Go.Proofs.Tryd
set_option linter.unusedSimpArgs false
set_option linter.unusedVariables false
set_option maxHeartbeats 8000000 in
theorem c_ref03_Kind (N : Nat) (u : Int) (r : Int) (hsh : s_ref03_Kind N u = some r) : CRes prog 87 [.v (.int .u64 u)] .nil (.ret (.v (.int .u8 r))) .nil := by
  refine is_ref03_Kind.run hm 1000 _ rfl fun X hX => ?_
  simp only [List.length_cons, List.length_nil, List.replicate, Nat.reduceAdd, Nat.reduceSub, El, Et]
  rw [s_ref03_Kind] at hsh
  simp only [Erun, Ek, Ev, El, Ea, Eu, hX.res, hX.Q, List.getElem?_cons_zero, List.getElem?_cons_succ, seval, Et]
  repeat (with_reducible refine And.intro (by first | assumption | omega | (simp only [i64in] at *; omega)) ?_)
  obtain ⟨exp, h1, hsh⟩ := Option.bind_eq_some_iff.1 hsh
  have h1k := c_ref03_Exp N u exp h1
  rw [← hX.P] at h1k
  refine .inl (vcall_pure _ (by rw [hX.P]; exact is_ref03_Exp.enters) h1k (fun H => (by simp [El2, El3, El4, Ev, El, Eb, Et])) ?_)
  refine run_go 1000 _ _ _ _ ?_
  simp only [Erun, Ek, Ev, El, Ea, Eu, hX.res, hX.Q, List.getElem?_cons_zero, List.getElem?_cons_succ, seval, Et]
  repeat (with_reducible refine And.intro (by first | assumption | omega | (simp only [i64in] at *; omega)) ?_)
  by_cases h2 : (exp == 2047) = true
  · rw [if_pos h2] at hsh
    simp only [Erun, Ek, Ev, El, Ea, Eu, hX.res, hX.Q, List.getElem?_cons_zero, List.getElem?_cons_succ, seval, Et, h2]
    repeat (with_reducible refine And.intro (by first | assumption | omega | (simp only [i64in] at *; omega)) ?_)
    obtain ⟨frac, h3, hsh⟩ := Option.bind_eq_some_iff.1 hsh
    have h3k := c_ref03_Frac N u frac h3
    rw [← hX.P] at h3k
    refine .inl (vcall_pure _ (by rw [hX.P]; exact is_ref03_Frac.enters) h3k (fun H => (by simp [El2, El3, El4, Ev, El, Eb, Et, h2])) ?_)
    refine run_go 1000 _ _ _ _ ?_
    simp only [Erun, Ek, Ev, El, Ea, Eu, hX.res, hX.Q, List.getElem?_cons_zero, List.getElem?_cons_succ, seval, Et, h2]
    repeat (with_reducible refine And.intro (by first | assumption | omega | (simp only [i64in] at *; omega)) ?_)
    by_cases h4 : (frac != 0) = true
    · rw [if_pos h4] at hsh
      simp only [Erun, Ek, Ev, El, Ea, Eu, hX.res, hX.Q, List.getElem?_cons_zero, List.getElem?_cons_succ, seval, Et, h2, h4]
      repeat (with_reducible refine And.intro (by first | assumption | omega | (simp only [i64in] at *; omega)) ?_)
      obtain rfl := Option.some.inj hsh
      refine post_give [] ?_
      simp [El2, El3, El4, Ev, El, Eb, Et, h2, h4]
    · rw [if_neg h4] at hsh; replace h4 := neg_b h4
      simp only [Erun, Ek, Ev, El, Ea, Eu, hX.res, hX.Q, List.getElem?_cons_zero, List.getElem?_cons_succ, seval, Et, h2, h4]
      repeat (with_reducible refine And.intro (by first | assumption | omega | (simp only [i64in] at *; omega)) ?_)
      obtain ⟨exp2, h5, hsh⟩ := Option.bind_eq_some_iff.1 hsh
      have h5k := c_ref03_Exp N u exp2 h5
      rw [← hX.P] at h5k
      refine .inl (vcall_pure _ (by rw [hX.P]; exact is_ref03_Exp.enters) h5k (fun H => (by simp [El2, El3, El4, Ev, El, Eb, Et, h2, h4])) ?_)
      refine run_go 1000 _ _ _ _ ?_
      simp only [Erun, Ek, Ev, El, Ea, Eu, hX.res, hX.Q, List.getElem?_cons_zero, List.getElem?_cons_succ, seval, Et, h2, h4]
      repeat (with_reducible refine And.intro (by first | assumption | omega | (simp only [i64in] at *; omega)) ?_)
      by_cases h6 : (exp2 == 2047) = true
      · rw [if_pos h6] at hsh
        simp only [Erun, Ek, Ev, El, Ea, Eu, hX.res, hX.Q, List.getElem?_cons_zero, List.getElem?_cons_succ, seval, Et, h2, h4, h6]
        repeat (with_reducible refine And.intro (by first | assumption | omega | (simp only [i64in] at *; omega)) ?_)
        obtain rfl := Option.some.inj hsh
        refine post_give [] ?_
        simp [El2, El3, El4, Ev, El, Eb, Et, h2, h4, h6]
      · rw [if_neg h6] at hsh; replace h6 := neg_b h6
        simp only [Erun, Ek, Ev, El, Ea, Eu, hX.res, hX.Q, List.getElem?_cons_zero, List.getElem?_cons_succ, seval, Et, h2, h4, h6]
        repeat (with_reducible refine And.intro (by first | assumption | omega | (simp only [i64in] at *; omega)) ?_)
        obtain ⟨exp3, h7, hsh⟩ := Option.bind_eq_some_iff.1 hsh
        have h7k := c_ref03_Exp N u exp3 h7
        rw [← hX.P] at h7k
        refine .inl (vcall_pure _ (by rw [hX.P]; exact is_ref03_Exp.enters) h7k (fun H => (by simp [El2, El3, El4, Ev, El, Eb, Et, h2, h4, h6])) ?_)
        refine run_go 1000 _ _ _ _ ?_
        simp only [Erun, Ek, Ev, El, Ea, Eu, hX.res, hX.Q, List.getElem?_cons_zero, List.getElem?_cons_succ, seval, Et, h2, h4, h6]
        repeat (with_reducible refine And.intro (by first | assumption | omega | (simp only [i64in] at *; omega)) ?_)
        by_cases h8 : (exp3 != 0) = true
        · rw [if_pos h8] at hsh
          simp only [Erun, Ek, Ev, El, Ea, Eu, hX.res, hX.Q, List.getElem?_cons_zero, List.getElem?_cons_succ, seval, Et, h2, h4, h6, h8]
          repeat (with_reducible refine And.intro (by first | assumption | omega | (simp only [i64in] at *; omega)) ?_)
          obtain rfl := Option.some.inj hsh
          refine post_give [] ?_
          simp [El2, El3, El4, Ev, El, Eb, Et, h2, h4, h6, h8]
        · rw [if_neg h8] at hsh; replace h8 := neg_b h8
          simp only [Erun, Ek, Ev, El, Ea, Eu, hX.res, hX.Q, List.getElem?_cons_zero, List.getElem?_cons_succ, seval, Et, h2, h4, h6, h8]
          repeat (with_reducible refine And.intro (by first | assumption | omega | (simp only [i64in] at *; omega)) ?_)
          obtain ⟨frac2, h9, hsh⟩ := Option.bind_eq_some_iff.1 hsh
          have h9k := c_ref03_Frac N u frac2 h9
          rw [← hX.P] at h9k
          refine .inl (vcall_pure _ (by rw [hX.P]; exact is_ref03_Frac.enters) h9k (fun H => (by simp [El2, El3, El4, Ev, El, Eb, Et, h2, h4, h6, h8])) ?_)
          refine run_go 1000 _ _ _ _ ?_
          simp only [Erun, Ek, Ev, El, Ea, Eu, hX.res, hX.Q, List.getElem?_cons_zero, List.getElem?_cons_succ, seval, Et, h2, h4, h6, h8]
          repeat (with_reducible refine And.intro (by first | assumption | omega | (simp only [i64in] at *; omega)) ?_)
          by_cases h10 : (frac2 != 0) = true
          · rw [if_pos h10] at hsh
            simp only [Erun, Ek, Ev, El, Ea, Eu, hX.res, hX.Q, List.getElem?_cons_zero, List.getElem?_cons_succ, seval, Et, h2, h4, h6, h8, h10]
            repeat (with_reducible refine And.intro (by first | assumption | omega | (simp only [i64in] at *; omega)) ?_)
            obtain rfl := Option.some.inj hsh
            refine post_give [] ?_
            simp [El2, El3, El4, Ev, El, Eb, Et, h2, h4, h6, h8, h10]
          · rw [if_neg h10] at hsh; replace h10 := neg_b h10
            simp only [Erun, Ek, Ev, El, Ea, Eu, hX.res, hX.Q, List.getElem?_cons_zero, List.getElem?_cons_succ, seval, Et, h2, h4, h6, h8, h10]
            repeat (with_reducible refine And.intro (by first | assumption | omega | (simp only [i64in] at *; omega)) ?_)
            obtain rfl := Option.some.inj hsh
            refine post_give [] ?_
            simp [El2, El3, El4, Ev, El, Eb, Et, h2, h4, h6, h8, h10]
  · rw [if_neg h2] at hsh; replace h2 := neg_b h2
    simp only [Erun, Ek, Ev, El, Ea, Eu, hX.res, hX.Q, List.getElem?_cons_zero, List.getElem?_cons_succ, seval, Et, h2]
    repeat (with_reducible refine And.intro (by first | assumption | omega | (simp only [i64in] at *; omega)) ?_)
    obtain ⟨exp4, h11, hsh⟩ := Option.bind_eq_some_iff.1 hsh
    have h11k := c_ref03_Exp N u exp4 h11
    rw [← hX.P] at h11k
    refine .inl (vcall_pure _ (by rw [hX.P]; exact is_ref03_Exp.enters) h11k (fun H => (by simp [El2, El3, El4, Ev, El, Eb, Et, h2])) ?_)
    refine run_go 1000 _ _ _ _ ?_
    simp only [Erun, Ek, Ev, El, Ea, Eu, hX.res, hX.Q, List.getElem?_cons_zero, List.getElem?_cons_succ, seval, Et, h2]
    repeat (with_reducible refine And.intro (by first | assumption | omega | (simp only [i64in] at *; omega)) ?_)
    by_cases h12 : (exp4 == 2047) = true
    · rw [if_pos h12] at hsh
      simp only [Erun, Ek, Ev, El, Ea, Eu, hX.res, hX.Q, List.getElem?_cons_zero, List.getElem?_cons_succ, seval, Et, h2, h12]
      repeat (with_reducible refine And.intro (by first | assumption | omega | (simp only [i64in] at *; omega)) ?_)
      obtain rfl := Option.some.inj hsh
      refine post_give [] ?_
      simp [El2, El3, El4, Ev, El, Eb, Et, h2, h12]
    · rw [if_neg h12] at hsh; replace h12 := neg_b h12
      simp only [Erun, Ek, Ev, El, Ea, Eu, hX.res, hX.Q, List.getElem?_cons_zero, List.getElem?_cons_succ, seval, Et, h2, h12]
      repeat (with_reducible refine And.intro (by first | assumption | omega | (simp only [i64in] at *; omega)) ?_)
      obtain ⟨exp5, h13, hsh⟩ := Option.bind_eq_some_iff.1 hsh
      have h13k := c_ref03_Exp N u exp5 h13
      rw [← hX.P] at h13k
      refine .inl (vcall_pure _ (by rw [hX.P]; exact is_ref03_Exp.enters) h13k (fun H => (by simp [El2, El3, El4, Ev, El, Eb, Et, h2, h12])) ?_)
      refine run_go 1000 _ _ _ _ ?_
      simp only [Erun, Ek, Ev, El, Ea, Eu, hX.res, hX.Q, List.getElem?_cons_zero, List.getElem?_cons_succ, seval, Et, h2, h12]
      repeat (with_reducible refine And.intro (by first | assumption | omega | (simp only [i64in] at *; omega)) ?_)
      by_cases h14 : (exp5 != 0) = true
      · rw [if_pos h14] at hsh
        simp only [Erun, Ek, Ev, El, Ea, Eu, hX.res, hX.Q, List.getElem?_cons_zero, List.getElem?_cons_succ, seval, Et, h2, h12, h14]
        repeat (with_reducible refine And.intro (by first | assumption | omega | (simp only [i64in] at *; omega)) ?_)
        obtain rfl := Option.some.inj hsh
        refine post_give [] ?_
        simp [El2, El3, El4, Ev, El, Eb, Et, h2, h12, h14]
      · rw [if_neg h14] at hsh; replace h14 := neg_b h14
        simp only [Erun, Ek, Ev, El, Ea, Eu, hX.res, hX.Q, List.getElem?_cons_zero, List.getElem?_cons_succ, seval, Et, h2, h12, h14]
        repeat (with_reducible refine And.intro (by first | assumption | omega | (simp only [i64in] at *; omega)) ?_)
        obtain ⟨frac3, h15, hsh⟩ := Option.bind_eq_some_iff.1 hsh
        have h15k := c_ref03_Frac N u frac3 h15
        rw [← hX.P] at h15k
        refine .inl (vcall_pure _ (by rw [hX.P]; exact is_ref03_Frac.enters) h15k (fun H => (by simp [El2, El3, El4, Ev, El, Eb, Et, h2, h12, h14])) ?_)
        refine run_go 1000 _ _ _ _ ?_
        simp only [Erun, Ek, Ev, El, Ea, Eu, hX.res, hX.Q, List.getElem?_cons_zero, List.getElem?_cons_succ, seval, Et, h2, h12, h14]
        repeat (with_reducible refine And.intro (by first | assumption | omega | (simp only [i64in] at *; omega)) ?_)
        by_cases h16 : (frac3 != 0) = true
        · rw [if_pos h16] at hsh
          simp only [Erun, Ek, Ev, El, Ea, Eu, hX.res, hX.Q, List.getElem?_cons_zero, List.getElem?_cons_succ, seval, Et, h2, h12, h14, h16]
          repeat (with_reducible refine And.intro (by first | assumption | omega | (simp only [i64in] at *; omega)) ?_)
          obtain rfl := Option.some.inj hsh
          refine post_give [] ?_
          simp [El2, El3, El4, Ev, El, Eb, Et, h2, h12, h14, h16]
        · rw [if_neg h16] at hsh; replace h16 := neg_b h16
          simp only [Erun, Ek, Ev, El, Ea, Eu, hX.res, hX.Q, List.getElem?_cons_zero, List.getElem?_cons_succ, seval, Et, h2, h12, h14, h16]
          repeat (with_reducible refine And.intro (by first | assumption | omega | (simp only [i64in] at *; omega)) ?_)
          obtain rfl := Option.some.inj hsh
          refine post_give [] ?_
          simp [El2, El3, El4, Ev, El, Eb, Et, h2, h12, h14, h16]
set_option maxHeartbeats 8000000 in
theorem c_schema_kindOf (N : Nat) (word : List UInt8) (r : Int) (hsh : s_schema_kindOf N word = some r) : CRes prog 46 [.v (.string (bs word))] .nil (.ret (.v (.int .u8 r))) .nil := by
  refine is_schema_kindOf.run hm 1000 _ rfl fun X hX => ?_
  simp only [List.length_cons, List.length_nil, List.replicate, Nat.reduceAdd, Nat.reduceSub, El, Et]
  rw [s_schema_kindOf] at hsh
  simp only [Erun, Ek, Ev, El, Ea, Eu, hX.res, hX.Q, List.getElem?_cons_zero, List.getElem?_cons_succ, seval, Et]
  repeat (with_reducible refine And.intro (by first | assumption | omega | (simp only [i64in] at *; omega)) ?_)
  refine go_lessG hX [] [] [] _ _ (by rfl) (by rfl) (by simp [El2, El3, El4, Ev, El, Eb, Et]) (by simp [El2, El3, El4, Ev, El, Eb, Et]) (by rfl) (by rfl) (by simp [El2, El3, El4, Ev, El, Eb, Et]) (go_loop1 (fun (kind : Int) => ([.v (.string (bs word)), .any, .any, .v (.int .u8 kind)] ++ List.replicate 9 .any)) (fun (kind : Int) => ⟨[], []⟩) 1000 (fun next1 ih1 kind hsh => ?_) N 1 hsh)
  simp only [List.replicate, El] at ih1 ⊢
  rw [s_schema_kindOf_1] at hsh
  simp only [Erun, Ek, Ev, El, Ea, Eu, hX.res, hX.Q, List.getElem?_cons_zero, List.getElem?_cons_succ, seval, Et]
  repeat (with_reducible refine And.intro (by first | assumption | omega | (simp only [i64in] at *; omega)) ?_)
  by_cases h1 : (decide (kind ≤ 4)) = true
  · rw [if_pos h1] at hsh
    simp only [Erun, Ek, Ev, El, Ea, Eu, hX.res, hX.Q, List.getElem?_cons_zero, List.getElem?_cons_succ, seval, Et, h1]
    repeat (with_reducible refine And.intro (by first | assumption | omega | (simp only [i64in] at *; omega)) ?_)
    obtain ⟨word2, h2, hsh⟩ := Option.bind_eq_some_iff.1 hsh
    have h2k := c_value_Word N kind word2 h2
    rw [← hX.P] at h2k
    refine .inl (vcall_pure _ (by rw [hX.P]; exact is_value_Word.enters) h2k (fun H => (by simp [El2, El3, El4, Ev, El, Eb, Et, h1])) ?_)
    refine run_go 1000 _ _ _ _ ?_
    simp only [Erun, Ek, Ev, El, Ea, Eu, hX.res, hX.Q, List.getElem?_cons_zero, List.getElem?_cons_succ, seval, Et, h1]
    repeat (with_reducible refine And.intro (by first | assumption | omega | (simp only [i64in] at *; omega)) ?_)
    by_cases h3 : (word2 == word) = true
    · rw [if_pos h3] at hsh
      simp only [Erun, Ek, Ev, El, Ea, Eu, hX.res, hX.Q, List.getElem?_cons_zero, List.getElem?_cons_succ, seval, Et, h1, h3]
      repeat (with_reducible refine And.intro (by first | assumption | omega | (simp only [i64in] at *; omega)) ?_)
      obtain rfl := Option.some.inj hsh
      refine post_give [] ?_
      simp [El2, El3, El4, Ev, El, Eb, Et, h1, h3]
    · rw [if_neg h3] at hsh; replace h3 := neg_b h3
      simp only [Erun, Ek, Ev, El, Ea, Eu, hX.res, hX.Q, List.getElem?_cons_zero, List.getElem?_cons_succ, seval, Et, h1, h3]
      repeat (with_reducible refine And.intro (by first | assumption | omega | (simp only [i64in] at *; omega)) ?_)
      exact go_lessG hX [] [] [] _ _ (by rfl) (by rfl) (by simp [El2, El3, El4, Ev, El, Eb, Et, h1, h3]) (by simp [El2, El3, El4, Ev, El, Eb, Et, h1, h3]) (by rfl) (by rfl) (by simp [El2, El3, El4, Ev, El, Eb, Et, h1, h3]) (ih1 (IntKind.u8.wrap (kind + 1)) hsh)
  · rw [if_neg h1] at hsh; replace h1 := neg_b h1
    simp only [Erun, Ek, Ev, El, Ea, Eu, hX.res, hX.Q, List.getElem?_cons_zero, List.getElem?_cons_succ, seval, Et, h1]
    repeat (with_reducible refine And.intro (by first | assumption | omega | (simp only [i64in] at *; omega)) ?_)
    obtain rfl := Option.some.inj hsh
    refine post_give [] ?_
    simp [El2, El3, El4, Ev, El, Eb, Et, h1]
set_option maxHeartbeats 8000000 in
theorem c_ref32_Close (N : Nat) (g : gate_Gate) (s : Int) (r : gate_Gate × Int) (hsh : s_ref32_Close N g s = some r) : CRes prog 21 [gate_Gate.av g, .v (.int .i64 s)] .nil (.ret (.tup [gate_Gate.av r.1, .v (.int .i64 r.2)])) .nil := by
  refine is_ref32_Close.run hm 1000 _ rfl fun X hX => ?_
  simp only [List.length_cons, List.length_nil, List.replicate, Nat.reduceAdd, Nat.reduceSub, El, Et]
  rw [s_ref32_Close] at hsh
  simp only [Erun, Ek, Ev, El, Ea, Eu, hX.res, hX.Q, List.getElem?_cons_zero, List.getElem?_cons_succ, seval, Et]
  repeat (with_reducible refine And.intro (by first | assumption | omega | (simp only [i64in] at *; omega)) ?_)
  obtain ⟨vopen, h1, hsh⟩ := Option.bind_eq_some_iff.1 hsh
  have h1k := c_ref32_open N g s vopen h1
  rw [← hX.P] at h1k
  refine .inl (vcall_pure _ (by rw [hX.P]; exact is_ref32_open.enters) h1k (fun H => (by simp [El2, El3, El4, Ev, El, Eb, Et])) ?_)
  refine run_go 1000 _ _ _ _ ?_
  simp only [Erun, Ek, Ev, El, Ea, Eu, hX.res, hX.Q, List.getElem?_cons_zero, List.getElem?_cons_succ, seval, Et]
  repeat (with_reducible refine And.intro (by first | assumption | omega | (simp only [i64in] at *; omega)) ?_)
  by_cases h2 : (vopen != 0) = true
  · rw [if_pos h2] at hsh
    simp only [Erun, Ek, Ev, El, Ea, Eu, hX.res, hX.Q, List.getElem?_cons_zero, List.getElem?_cons_succ, seval, Et, h2]
    repeat (with_reducible refine And.intro (by first | assumption | omega | (simp only [i64in] at *; omega)) ?_)
    obtain rfl := Option.some.inj hsh
    refine post_give [] ?_
    simp [El2, El3, El4, Ev, El, Eb, Et, h2]
  · rw [if_neg h2] at hsh; replace h2 := neg_b h2
    obtain ⟨e, h3x, hsh⟩ := Option.bind_eq_some_iff.1 hsh
    obtain ⟨h3a, h3b, h3c, h3d⟩ := ix_some h3x
    simp only [Erun, Ek, Ev, El, Ea, Eu, hX.res, hX.Q, List.getElem?_cons_zero, List.getElem?_cons_succ, seval, Et, h2, h3a, h3b, h3c, h3d]
    repeat (with_reducible refine And.intro (by first | assumption | omega | (simp only [i64in] at *; omega)) ?_)
    obtain ⟨vwith, h4, hsh⟩ := Option.bind_eq_some_iff.1 hsh
    have h4k := c_ref32_with N g s (gate_Source.mk e.Front e.Last true) vwith h4
    rw [← hX.P] at h4k
    refine .inl (vcall_pure _ (by rw [hX.P]; exact is_ref32_with.enters) h4k (fun H => (by simp [El2, El3, El4, Ev, El, Eb, Et, h2, h3a, h3b, h3c, h3d])) ?_)
    refine run_go 1000 _ _ _ _ ?_
    simp only [Erun, Ek, Ev, El, Ea, Eu, hX.res, hX.Q, List.getElem?_cons_zero, List.getElem?_cons_succ, seval, Et, h2, h3a, h3b, h3c, h3d]
    repeat (with_reducible refine And.intro (by first | assumption | omega | (simp only [i64in] at *; omega)) ?_)
    obtain rfl := Option.some.inj hsh
    refine post_give [] ?_
    simp [El2, El3, El4, Ev, El, Eb, Et, h2, h3a, h3b, h3c, h3d]
set_option maxRecDepth 100000 in
set_option maxHeartbeats 8000000 in
theorem c_stringslite_Index_v860 (N : Nat) (s : List UInt8) (r : Int) (hsh : s_stringslite_Index_v860 N s = some r) : CRes prog 68 [.v (.string (bs s)), .v (.string (bs [10]))] .nil (.ret (.v (.int .i64 r))) .nil := by
  refine is_stringslite_Index.run hm 1000 _ rfl fun X hX => ?_
  simp only [List.length_cons, List.length_nil, List.replicate, Nat.reduceAdd, Nat.reduceSub, El, Et]
  rw [s_stringslite_Index_v860] at hsh
  simp only [Erun, Ek, Ev, El, Ea, Eu, hX.res, hX.Q, List.getElem?_cons_zero, List.getElem?_cons_succ, seval, Et]
  repeat (with_reducible refine And.intro (by first | assumption | omega | (simp only [i64in] at *; omega)) ?_)
  by_cases h1 : ([10] == s) = true
  · rw [if_pos h1] at hsh
    simp only [Erun, Ek, Ev, El, Ea, Eu, hX.res, hX.Q, List.getElem?_cons_zero, List.getElem?_cons_succ, seval, Et, h1]
    repeat (with_reducible refine And.intro (by first | assumption | omega | (simp only [i64in] at *; omega)) ?_)
    obtain rfl := Option.some.inj hsh
    refine post_give [] ?_
    simp [El2, El3, El4, Ev, El, Eb, Et, h1]
  · rw [if_neg h1] at hsh; replace h1 := neg_b h1
    simp only [Erun, Ek, Ev, El, Ea, Eu, hX.res, hX.Q, List.getElem?_cons_zero, List.getElem?_cons_succ, seval, Et, h1]
    repeat (with_reducible refine And.intro (by first | assumption | omega | (simp only [i64in] at *; omega)) ?_)
    obtain ⟨inde, h2, hsh⟩ := Option.bind_eq_some_iff.1 hsh
    have h2k := c_stringslite_IndexByte N s 10 inde h2
    rw [← hX.P] at h2k
    refine .inl (vcall_pure _ (by rw [hX.P]; exact is_stringslite_IndexByte.enters) h2k (fun H => (by simp [El2, El3, El4, Ev, El, Eb, Et, h1])) ?_)
    refine run_go 1000 _ _ _ _ ?_
    simp only [Erun, Ek, Ev, El, Ea, Eu, hX.res, hX.Q, List.getElem?_cons_zero, List.getElem?_cons_succ, seval, Et, h1]
    repeat (with_reducible refine And.intro (by first | assumption | omega | (simp only [i64in] at *; omega)) ?_)
    obtain rfl := Option.some.inj hsh
    refine post_give [] ?_
    simp [El2, El3, El4, Ev, El, Eb, Et, h1]
set_option maxHeartbeats 8000000 in
theorem c_law07_Own (N : Nat) (e : event_Event) (r : event_Event) (hsh : s_law07_Own N e = some r) : CRes prog 13 [event_Event.av e] .nil (.ret (event_Event.av r)) .nil := by
  refine is_law07_Own.run hm 1000 _ rfl fun X hX => ?_
  simp only [List.length_cons, List.length_nil, List.replicate, Nat.reduceAdd, Nat.reduceSub, El, Et]
  rw [s_law07_Own] at hsh
  simp only [Erun, Ek, Ev, El, Ea, Eu, hX.res, hX.Q, List.getElem?_cons_zero, List.getElem?_cons_succ, seval, Et]
  repeat (with_reducible refine And.intro (by first | assumption | omega | (simp only [i64in] at *; omega)) ?_)
  obtain ⟨vals, h1, hsh⟩ := Option.bind_eq_some_iff.1 hsh
  have h1k := c_law06_Vals N e.Vals vals h1
  rw [← hX.P] at h1k
  refine .inl (vcall_pure _ (by rw [hX.P]; exact is_law06_Vals.enters) h1k (fun H => (by simp [El2, El3, El4, Ev, El, Eb, Et])) ?_)
  refine run_go 1000 _ _ _ _ ?_
  simp only [Erun, Ek, Ev, El, Ea, Eu, hX.res, hX.Q, List.getElem?_cons_zero, List.getElem?_cons_succ, seval, Et]
  repeat (with_reducible refine And.intro (by first | assumption | omega | (simp only [i64in] at *; omega)) ?_)
  obtain rfl := Option.some.inj hsh
  refine post_give [] ?_
  simp [El2, El3, El4, Ev, El, Eb, Et]
end Go.Proofs.YtfblfapkpieckaaDoor.W
namespace Go.Proofs.YtfblfapkpieckaaDoor.W
open Go
open Go.Proofs.Tryd
set_option linter.unusedSimpArgs false
set_option linter.unusedVariables false
set_option maxHeartbeats 8000000 in
theorem c_law07_Over (N : Nat) (l : List event_Event) (most : Int) (r : Int) (hsh : s_law07_Over N l most = some r) : CRes prog 12 [.sl 5 (List.map event_Event.av l), .v (.int .i64 most)] .nil (.ret (.v (.int .i64 r))) .nil := by
  refine is_law07_Over.run hm 1000 _ rfl fun X hX => ?_
  simp only [List.length_cons, List.length_nil, List.replicate, Nat.reduceAdd, Nat.reduceSub, El, Et]
  rw [s_law07_Over] at hsh
  simp only [Erun, Ek, Ev, El, Ea, Eu, hX.res, hX.Q, List.getElem?_cons_zero, List.getElem?_cons_succ, seval, Et]
  repeat (with_reducible refine And.intro (by first | assumption | omega | (simp only [i64in] at *; omega)) ?_)
  by_cases h1 : (decide ((List.length l : Int) > most)) = true
  · rw [if_pos h1] at hsh
    simp only [Erun, Ek, Ev, El, Ea, Eu, hX.res, hX.Q, List.getElem?_cons_zero, List.getElem?_cons_succ, seval, Et, h1]
    repeat (with_reducible refine And.intro (by first | assumption | omega | (simp only [i64in] at *; omega)) ?_)
    obtain rfl := Option.some.inj hsh
    refine post_give [] ?_
    simp [El2, El3, El4, Ev, El, Eb, Et, h1]
  · rw [if_neg h1] at hsh; replace h1 := neg_b h1
    simp only [Erun, Ek, Ev, El, Ea, Eu, hX.res, hX.Q, List.getElem?_cons_zero, List.getElem?_cons_succ, seval, Et, h1]
    repeat (with_reducible refine And.intro (by first | assumption | omega | (simp only [i64in] at *; omega)) ?_)
    refine go_lessG hX [] [] [] _ _ (by rfl) (by rfl) (by simp [El2, El3, El4, Ev, El, Eb, Et, h1]) (by simp [El2, El3, El4, Ev, El, Eb, Et, h1]) (by rfl) (by rfl) (by simp [El2, El3, El4, Ev, El, Eb, Et, h1]) (go_loop1 (fun (i : Int) => ([.sl 5 (List.map event_Event.av l), .any, .any, .any, .any, .v (.int .i64 i)] ++ List.replicate 47 .any)) (fun (i : Int) => ⟨[], []⟩) 1000 (fun next1 ih1 i hsh => ?_) N 0 hsh)
    simp only [List.replicate, El] at ih1 ⊢
    rw [s_law07_Over_1] at hsh
    simp only [Erun, Ek, Ev, El, Ea, Eu, hX.res, hX.Q, List.getElem?_cons_zero, List.getElem?_cons_succ, seval, Et, h1]
    repeat (with_reducible refine And.intro (by first | assumption | omega | (simp only [i64in] at *; omega)) ?_)
    by_cases h2 : (decide (i < (List.length l : Int))) = true
    · rw [if_pos h2] at hsh
      obtain ⟨e, h3x, hsh⟩ := Option.bind_eq_some_iff.1 hsh
      obtain ⟨h3a, h3b, h3c, h3d⟩ := ix_some h3x
      simp only [Erun, Ek, Ev, El, Ea, Eu, hX.res, hX.Q, List.getElem?_cons_zero, List.getElem?_cons_succ, seval, Et, h1, h2, h3a, h3b, h3c, h3d]
      repeat (with_reducible refine And.intro (by first | assumption | omega | (simp only [i64in] at *; omega)) ?_)
      by_cases h4 : (decide ((List.length e.Type_ : Int) > 40)) = true
      · rw [if_pos h4] at hsh
        simp only [Erun, Ek, Ev, El, Ea, Eu, hX.res, hX.Q, List.getElem?_cons_zero, List.getElem?_cons_succ, seval, Et, h1, h2, h3a, h3b, h3c, h3d, h4]
        repeat (with_reducible refine And.intro (by first | assumption | omega | (simp only [i64in] at *; omega)) ?_)
        obtain rfl := Option.some.inj hsh
        refine post_give [] ?_
        simp [El2, El3, El4, Ev, El, Eb, Et, h1, h2, h3a, h3b, h3c, h3d, h4]
      · rw [if_neg h4] at hsh; replace h4 := neg_b h4
        simp only [Erun, Ek, Ev, El, Ea, Eu, hX.res, hX.Q, List.getElem?_cons_zero, List.getElem?_cons_succ, seval, Et, h1, h2, h3a, h3b, h3c, h3d, h4]
        repeat (with_reducible refine And.intro (by first | assumption | omega | (simp only [i64in] at *; omega)) ?_)
        by_cases h5 : (decide ((List.length e.Vals : Int) > 12)) = true
        · rw [if_pos h5] at hsh
          simp only [Erun, Ek, Ev, El, Ea, Eu, hX.res, hX.Q, List.getElem?_cons_zero, List.getElem?_cons_succ, seval, Et, h1, h2, h3a, h3b, h3c, h3d, h4, h5]
          repeat (with_reducible refine And.intro (by first | assumption | omega | (simp only [i64in] at *; omega)) ?_)
          obtain rfl := Option.some.inj hsh
          refine post_give [] ?_
          simp [El2, El3, El4, Ev, El, Eb, Et, h1, h2, h3a, h3b, h3c, h3d, h4, h5]
        · rw [if_neg h5] at hsh; replace h5 := neg_b h5
          simp only [Erun, Ek, Ev, El, Ea, Eu, hX.res, hX.Q, List.getElem?_cons_zero, List.getElem?_cons_succ, seval, Et, h1, h2, h3a, h3b, h3c, h3d, h4, h5]
          repeat (with_reducible refine And.intro (by first | assumption | omega | (simp only [i64in] at *; omega)) ?_)
          refine go_lessG hX [] [] [] _ _ (by rfl) (by rfl) (by simp [El2, El3, El4, Ev, El, Eb, Et, h1, h2, h3a, h3b, h3c, h3d, h4, h5]) (by simp [El2, El3, El4, Ev, El, Eb, Et, h1, h2, h3a, h3b, h3c, h3d, h4, h5]) (by rfl) (by rfl) (by simp [El2, El3, El4, Ev, El, Eb, Et, h1, h2, h3a, h3b, h3c, h3d, h4, h5]) (go_loop1 (fun (k : Int) => ([.sl 5 (List.map event_Event.av l), .any, .any, .any, .any, .v (.int .i64 i), .v (.int .i64 k)] ++ List.replicate 46 .any)) (fun (k : Int) => ⟨[], []⟩) 1000 (fun next2 ih2 k hsh => ?_) N 0 hsh)
          simp only [List.replicate, El] at ih2 ⊢
          rw [s_law07_Over_2] at hsh
          simp only [Erun, Ek, Ev, El, Ea, Eu, hX.res, hX.Q, List.getElem?_cons_zero, List.getElem?_cons_succ, seval, Et, h1, h2, h3a, h3b, h3c, h3d, h4, h5]
          repeat (with_reducible refine And.intro (by first | assumption | omega | (simp only [i64in] at *; omega)) ?_)
          by_cases h6 : (decide (k < (List.length e.Vals : Int))) = true
          · rw [if_pos h6] at hsh
            obtain ⟨e2, h7x, hsh⟩ := Option.bind_eq_some_iff.1 hsh
            obtain ⟨h7a, h7b, h7c, h7d⟩ := ix_some h7x
            simp only [Erun, Ek, Ev, El, Ea, Eu, hX.res, hX.Q, List.getElem?_cons_zero, List.getElem?_cons_succ, seval, Et, h1, h2, h3a, h3b, h3c, h3d, h4, h5, h6, h7a, h7b, h7c, h7d]
            repeat (with_reducible refine And.intro (by first | assumption | omega | (simp only [i64in] at *; omega)) ?_)
            obtain ⟨smal, h8, hsh⟩ := Option.bind_eq_some_iff.1 hsh
            have h8k := c_law04_Small N e2 smal h8
            rw [← hX.P] at h8k
            refine .inl (vcall_pure _ (by rw [hX.P]; exact is_law04_Small.enters) h8k (fun H => (by simp [El2, El3, El4, Ev, El, Eb, Et, h1, h2, h3a, h3b, h3c, h3d, h4, h5, h6, h7a, h7b, h7c, h7d])) ?_)
            refine run_go 1000 _ _ _ _ ?_
            simp only [Erun, Ek, Ev, El, Ea, Eu, hX.res, hX.Q, List.getElem?_cons_zero, List.getElem?_cons_succ, seval, Et, h1, h2, h3a, h3b, h3c, h3d, h4, h5, h6, h7a, h7b, h7c, h7d]
            repeat (with_reducible refine And.intro (by first | assumption | omega | (simp only [i64in] at *; omega)) ?_)
            by_cases h9 : (decide (smal > 0)) = true
            · rw [if_pos h9] at hsh
              simp only [Erun, Ek, Ev, El, Ea, Eu, hX.res, hX.Q, List.getElem?_cons_zero, List.getElem?_cons_succ, seval, Et, h1, h2, h3a, h3b, h3c, h3d, h4, h5, h6, h7a, h7b, h7c, h7d, h9]
              repeat (with_reducible refine And.intro (by first | assumption | omega | (simp only [i64in] at *; omega)) ?_)
              obtain rfl := Option.some.inj hsh
              refine post_give [] ?_
              simp [El2, El3, El4, Ev, El, Eb, Et, h1, h2, h3a, h3b, h3c, h3d, h4, h5, h6, h7a, h7b, h7c, h7d, h9]
            · rw [if_neg h9] at hsh; replace h9 := neg_b h9
              obtain ⟨h10, hsh⟩ := guard_some hsh
              simp only [Erun, Ek, Ev, El, Ea, Eu, hX.res, hX.Q, List.getElem?_cons_zero, List.getElem?_cons_succ, seval, Et, h1, h2, h3a, h3b, h3c, h3d, h4, h5, h6, h7a, h7b, h7c, h7d, h9, h10]
              repeat (with_reducible refine And.intro (by first | assumption | omega | (simp only [i64in] at *; omega)) ?_)
              exact go_lessG hX [] [] [] _ _ (by rfl) (by rfl) (by simp [El2, El3, El4, Ev, El, Eb, Et, h1, h2, h3a, h3b, h3c, h3d, h4, h5, h6, h7a, h7b, h7c, h7d, h9, h10]) (by simp [El2, El3, El4, Ev, El, Eb, Et, h1, h2, h3a, h3b, h3c, h3d, h4, h5, h6, h7a, h7b, h7c, h7d, h9, h10]) (by rfl) (by rfl) (by simp [El2, El3, El4, Ev, El, Eb, Et, h1, h2, h3a, h3b, h3c, h3d, h4, h5, h6, h7a, h7b, h7c, h7d, h9, h10]) (ih2 (k + 1) hsh)
          · rw [if_neg h6] at hsh; replace h6 := neg_b h6
            obtain ⟨h11, hsh⟩ := guard_some hsh
            simp only [Erun, Ek, Ev, El, Ea, Eu, hX.res, hX.Q, List.getElem?_cons_zero, List.getElem?_cons_succ, seval, Et, h1, h2, h3a, h3b, h3c, h3d, h4, h5, h6, h11]
            repeat (with_reducible refine And.intro (by first | assumption | omega | (simp only [i64in] at *; omega)) ?_)
            exact go_lessG hX [] [] [] _ _ (by rfl) (by rfl) (by simp [El2, El3, El4, Ev, El, Eb, Et, h1, h2, h3a, h3b, h3c, h3d, h4, h5, h6, h11]) (by simp [El2, El3, El4, Ev, El, Eb, Et, h1, h2, h3a, h3b, h3c, h3d, h4, h5, h6, h11]) (by rfl) (by rfl) (by simp [El2, El3, El4, Ev, El, Eb, Et, h1, h2, h3a, h3b, h3c, h3d, h4, h5, h6, h11]) (ih1 (i + 1) hsh)
    · rw [if_neg h2] at hsh; replace h2 := neg_b h2
      simp only [Erun, Ek, Ev, El, Ea, Eu, hX.res, hX.Q, List.getElem?_cons_zero, List.getElem?_cons_succ, seval, Et, h1, h2]
      repeat (with_reducible refine And.intro (by first | assumption | omega | (simp only [i64in] at *; omega)) ?_)
      obtain rfl := Option.some.inj hsh
      refine post_give [] ?_
      simp [El2, El3, El4, Ev, El, Eb, Et, h1, h2]
set_option maxHeartbeats 8000000 in
theorem c_schema_Find (N : Nat) (l : List schema_Type) (name : List UInt8) (r : schema_Type × Bool) (hsh : s_schema_Find N l name = some r) : CRes prog 48 [.sl 2 (List.map schema_Type.av l), .v (.string (bs name))] .nil (.ret (.tup [schema_Type.av r.1, .v (.bool r.2)])) .nil := by
  refine is_schema_Find.run hm 1000 _ rfl fun X hX => ?_
  simp only [List.length_cons, List.length_nil, List.replicate, Nat.reduceAdd, Nat.reduceSub, El, Et]
  rw [s_schema_Find] at hsh
  simp only [Erun, Ek, Ev, El, Ea, Eu, hX.res, hX.Q, List.getElem?_cons_zero, List.getElem?_cons_succ, seval, Et]
  repeat (with_reducible refine And.intro (by first | assumption | omega | (simp only [i64in] at *; omega)) ?_)
  refine go_lessG hX [] [0] [] _ _ (by rfl) (by rfl) (by simp [El2, El3, El4, Ev, El, Eb, Et]) (by simp [El2, El3, El4, Ev, El, Eb, Et]) (by rfl) (by rfl) (by simp [El2, El3, El4, Ev, El, Eb, Et]) (go_loop1 (fun (x : Int) => ([.any, .v (.string (bs name)), .any, .any, .ptr 0 0, .any, .any, .any, .sl 2 (List.map schema_Type.av l), .v (.int .i64 (List.length l : Int)), .v (.int .i64 x)] ++ List.replicate 14 .any)) (fun (x : Int) => ⟨[[.v (.string (bs [])), .emp]], []⟩) 1000 (fun next1 ih1 x hsh => ?_) N 0 hsh)
  simp only [List.replicate, El] at ih1 ⊢
  rw [s_schema_Find_1] at hsh
  simp only [Erun, Ek, Ev, El, Ea, Eu, hX.res, hX.Q, List.getElem?_cons_zero, List.getElem?_cons_succ, seval, Et]
  repeat (with_reducible refine And.intro (by first | assumption | omega | (simp only [i64in] at *; omega)) ?_)
  by_cases h1 : (decide (x < (List.length l : Int))) = true
  · rw [if_pos h1] at hsh
    obtain ⟨e, h2x, hsh⟩ := Option.bind_eq_some_iff.1 hsh
    obtain ⟨h2a, h2b, h2c, h2d⟩ := ix_some h2x
    simp only [Erun, Ek, Ev, El, Ea, Eu, hX.res, hX.Q, List.getElem?_cons_zero, List.getElem?_cons_succ, seval, Et, h1, h2a, h2b, h2c, h2d]
    repeat (with_reducible refine And.intro (by first | assumption | omega | (simp only [i64in] at *; omega)) ?_)
    by_cases h3 : (e.Name == name) = true
    · rw [if_pos h3] at hsh
      simp only [Erun, Ek, Ev, El, Ea, Eu, hX.res, hX.Q, List.getElem?_cons_zero, List.getElem?_cons_succ, seval, Et, h1, h2a, h2b, h2c, h2d, h3]
      repeat (with_reducible refine And.intro (by first | assumption | omega | (simp only [i64in] at *; omega)) ?_)
      obtain ⟨fiel, h4, hsh⟩ := Option.bind_eq_some_iff.1 hsh
      have h4k := c_slices_Clone_schema_Field_own N e.Fields fiel h4
      rw [← hX.P] at h4k
      refine .inl (vcall_lift [] [] [] _ (by rw [hX.P]; exact is_slices_Clone_schema_Field.enters) h4k (by simp [El2, El3, El4, Ev, El, Eb, Et, h1, h2a, h2b, h2c, h2d, h3]) (by simp [El2, El3, El4, Ev, El, Eb, Et, h1, h2a, h2b, h2c, h2d, h3]) (by rfl) (by rfl) (by rfl) (by simp [El2, El3, El4, Ev, El, Eb, Et, h1, h2a, h2b, h2c, h2d, h3]) ?_)
      simp only [Eu, El, Ev, Ea, Nat.reduceAdd, AH.nil]
      refine run_go 1000 _ _ _ _ ?_
      simp only [Erun, Ek, Ev, El, Ea, Eu, hX.res, hX.Q, List.getElem?_cons_zero, List.getElem?_cons_succ, seval, Et, h1, h2a, h2b, h2c, h2d, h3]
      repeat (with_reducible refine And.intro (by first | assumption | omega | (simp only [i64in] at *; omega)) ?_)
      obtain rfl := Option.some.inj hsh
      refine post_give [0] ?_
      simp [El2, El3, El4, Ev, El, Eb, Et, h1, h2a, h2b, h2c, h2d, h3]
    · rw [if_neg h3] at hsh; replace h3 := neg_b h3
      obtain ⟨h5, hsh⟩ := guard_some hsh
      simp only [Erun, Ek, Ev, El, Ea, Eu, hX.res, hX.Q, List.getElem?_cons_zero, List.getElem?_cons_succ, seval, Et, h1, h2a, h2b, h2c, h2d, h3, h5]
      repeat (with_reducible refine And.intro (by first | assumption | omega | (simp only [i64in] at *; omega)) ?_)
      exact go_lessG hX [] [0] [] _ _ (by rfl) (by rfl) (by simp [El2, El3, El4, Ev, El, Eb, Et, h1, h2a, h2b, h2c, h2d, h3, h5]) (by simp [El2, El3, El4, Ev, El, Eb, Et, h1, h2a, h2b, h2c, h2d, h3, h5]) (by rfl) (by rfl) (by simp [El2, El3, El4, Ev, El, Eb, Et, h1, h2a, h2b, h2c, h2d, h3, h5]) (ih1 (x + 1) hsh)
  · rw [if_neg h1] at hsh; replace h1 := neg_b h1
    simp only [Erun, Ek, Ev, El, Ea, Eu, hX.res, hX.Q, List.getElem?_cons_zero, List.getElem?_cons_succ, seval, Et, h1]
    repeat (with_reducible refine And.intro (by first | assumption | omega | (simp only [i64in] at *; omega)) ?_)
    obtain rfl := Option.some.inj hsh
    refine post_give [] ?_
    simp [El2, El3, El4, Ev, El, Eb, Et, h1]
set_option maxHeartbeats 8000000 in
theorem c_schema_tail (N : Nat) (c : Int) (r : Bool) (hsh : s_schema_tail N c = some r) : CRes prog 74 [.v (.int .u8 c)] .nil (.ret (.v (.bool r))) .nil := by
  refine is_schema_tail.run hm 1000 _ rfl fun X hX => ?_
  simp only [List.length_cons, List.length_nil, List.replicate, Nat.reduceAdd, Nat.reduceSub, El, Et]
  rw [s_schema_tail] at hsh
  simp only [Erun, Ek, Ev, El, Ea, Eu, hX.res, hX.Q, List.getElem?_cons_zero, List.getElem?_cons_succ, seval, Et]
  repeat (with_reducible refine And.intro (by first | assumption | omega | (simp only [i64in] at *; omega)) ?_)
  obtain ⟨lett, h1, hsh⟩ := Option.bind_eq_some_iff.1 hsh
  have h1k := c_schema_letter N c lett h1
  rw [← hX.P] at h1k
  refine .inl (vcall_pure _ (by rw [hX.P]; exact is_schema_letter.enters) h1k (fun H => (by simp [El2, El3, El4, Ev, El, Eb, Et])) ?_)
  refine run_go 1000 _ _ _ _ ?_
  simp only [Erun, Ek, Ev, El, Ea, Eu, hX.res, hX.Q, List.getElem?_cons_zero, List.getElem?_cons_succ, seval, Et]
  repeat (with_reducible refine And.intro (by first | assumption | omega | (simp only [i64in] at *; omega)) ?_)
  by_cases h2 : lett = true
  · rw [if_pos h2] at hsh
    simp only [Erun, Ek, Ev, El, Ea, Eu, hX.res, hX.Q, List.getElem?_cons_zero, List.getElem?_cons_succ, seval, Et, h2]
    repeat (with_reducible refine And.intro (by first | assumption | omega | (simp only [i64in] at *; omega)) ?_)
    obtain rfl := Option.some.inj hsh
    refine post_give [] ?_
    simp [El2, El3, El4, Ev, El, Eb, Et, h2]
  · rw [if_neg h2] at hsh; replace h2 := neg_b h2
    simp only [Erun, Ek, Ev, El, Ea, Eu, hX.res, hX.Q, List.getElem?_cons_zero, List.getElem?_cons_succ, seval, Et, h2]
    repeat (with_reducible refine And.intro (by first | assumption | omega | (simp only [i64in] at *; omega)) ?_)
    by_cases h3 : (decide (48 ≤ c)) = true
    · rw [if_pos h3] at hsh
      simp only [Erun, Ek, Ev, El, Ea, Eu, hX.res, hX.Q, List.getElem?_cons_zero, List.getElem?_cons_succ, seval, Et, h2, h3]
      repeat (with_reducible refine And.intro (by first | assumption | omega | (simp only [i64in] at *; omega)) ?_)
      by_cases h4 : (decide (c ≤ 57)) = true
      · rw [if_pos h4] at hsh
        simp only [Erun, Ek, Ev, El, Ea, Eu, hX.res, hX.Q, List.getElem?_cons_zero, List.getElem?_cons_succ, seval, Et, h2, h3, h4]
        repeat (with_reducible refine And.intro (by first | assumption | omega | (simp only [i64in] at *; omega)) ?_)
        obtain rfl := Option.some.inj hsh
        refine post_give [] ?_
        simp [El2, El3, El4, Ev, El, Eb, Et, h2, h3, h4]
      · rw [if_neg h4] at hsh; replace h4 := neg_b h4
        simp only [Erun, Ek, Ev, El, Ea, Eu, hX.res, hX.Q, List.getElem?_cons_zero, List.getElem?_cons_succ, seval, Et, h2, h3, h4]
        repeat (with_reducible refine And.intro (by first | assumption | omega | (simp only [i64in] at *; omega)) ?_)
        obtain rfl := Option.some.inj hsh
        refine post_give [] ?_
        simp [El2, El3, El4, Ev, El, Eb, Et, h2, h3, h4]
    · rw [if_neg h3] at hsh; replace h3 := neg_b h3
      simp only [Erun, Ek, Ev, El, Ea, Eu, hX.res, hX.Q, List.getElem?_cons_zero, List.getElem?_cons_succ, seval, Et, h2, h3]
      repeat (with_reducible refine And.intro (by first | assumption | omega | (simp only [i64in] at *; omega)) ?_)
      obtain rfl := Option.some.inj hsh
      refine post_give [] ?_
      simp [El2, El3, El4, Ev, El, Eb, Et, h2, h3]
set_option maxHeartbeats 8000000 in
theorem c_gate_Gate_turn_v071 (N : Nat) (g : gate_Gate) (s : Int) (r : gate_Gate) (hsh : s_gate_Gate_turn_v071 N g s = some r) : CRes prog 38 [gate_Gate.av g, .v (.int .i64 s), .fn (.func 42) [] []] .nil (.ret (gate_Gate.av r)) .nil := by
  refine is_gate_Gate_turn.run hm 1000 _ rfl fun X hX => ?_
  simp only [List.length_cons, List.length_nil, List.replicate, Nat.reduceAdd, Nat.reduceSub, El, Et]
  rw [s_gate_Gate_turn_v071] at hsh
  simp only [Erun, Ek, Ev, El, Ea, Eu, hX.res, hX.Q, List.getElem?_cons_zero, List.getElem?_cons_succ, seval, Et]
  repeat (with_reducible refine And.intro (by first | assumption | omega | (simp only [i64in] at *; omega)) ?_)
  obtain ⟨sour, h1, hsh⟩ := Option.bind_eq_some_iff.1 hsh
  have h1k := c_slices_Clone_gate_Source_own N g.L sour h1
  rw [← hX.P] at h1k
  refine .inl (vcall_lift [] [] [] _ (by rw [hX.P]; exact is_slices_Clone_gate_Source.enters) h1k (by simp [El2, El3, El4, Ev, El, Eb, Et]) (by simp [El2, El3, El4, Ev, El, Eb, Et]) (by rfl) (by rfl) (by rfl) (by simp [El2, El3, El4, Ev, El, Eb, Et]) ?_)
  simp only [Eu, El, Ev, Ea, Nat.reduceAdd, AH.nil]
  refine run_go 1000 _ _ _ _ ?_
  obtain ⟨e, h2x, hsh⟩ := Option.bind_eq_some_iff.1 hsh
  obtain ⟨h2a, h2b, h2c, h2d⟩ := ix_some h2x
  simp only [Erun, Ek, Ev, El, Ea, Eu, hX.res, hX.Q, List.getElem?_cons_zero, List.getElem?_cons_succ, seval, Et, h2a, h2b, h2c, h2d]
  repeat (with_reducible refine And.intro (by first | assumption | omega | (simp only [i64in] at *; omega)) ?_)
  obtain ⟨l, h3, hsh⟩ := Option.bind_eq_some_iff.1 hsh
  have h3k := c_gate_Gate_Close_L1_v462 N s sour l h3
  rw [← hX.P] at h3k
  refine (vcall_lift [] [] [0] _ (by rw [hX.P]; exact is_gate_Gate_Close_L1.enters) h3k (by simp [El2, El3, El4, Ev, El, Eb, Et, h2a, h2b, h2c, h2d]) (by simp [El2, El3, El4, Ev, El, Eb, Et, h2a, h2b, h2c, h2d]) (by rfl) (by rfl) (by rfl) (by simp [El2, El3, El4, Ev, El, Eb, Et, h2a, h2b, h2c, h2d]) ?_)
  simp only [Eu, El, Ev, Ea, Nat.reduceAdd, AH.nil]
  refine run_go 1000 _ _ _ _ ?_
  simp only [Erun, Ek, Ev, El, Ea, Eu, hX.res, hX.Q, List.getElem?_cons_zero, List.getElem?_cons_succ, seval, Et, h2a, h2b, h2c, h2d]
  repeat (with_reducible refine And.intro (by first | assumption | omega | (simp only [i64in] at *; omega)) ?_)
  obtain rfl := Option.some.inj hsh
  refine post_give [0] ?_
  simp [El2, El3, El4, Ev, El, Eb, Et, h2a, h2b, h2c, h2d]
set_option maxRecDepth 100000 in
set_option maxHeartbeats 8000000 in
theorem c_stringslite_Index_v682 (N : Nat) (s : List UInt8) (r : Int) (hsh : s_stringslite_Index_v682 N s = some r) : CRes prog 68 [.v (.string (bs s)), .v (.string (bs [58]))] .nil (.ret (.v (.int .i64 r))) .nil := by
  refine is_stringslite_Index.run hm 1000 _ rfl fun X hX => ?_
  simp only [List.length_cons, List.length_nil, List.replicate, Nat.reduceAdd, Nat.reduceSub, El, Et]
  rw [s_stringslite_Index_v682] at hsh
  simp only [Erun, Ek, Ev, El, Ea, Eu, hX.res, hX.Q, List.getElem?_cons_zero, List.getElem?_cons_succ, seval, Et]
  repeat (with_reducible refine And.intro (by first | assumption | omega | (simp only [i64in] at *; omega)) ?_)
  by_cases h1 : ([58] == s) = true
  · rw [if_pos h1] at hsh
    simp only [Erun, Ek, Ev, El, Ea, Eu, hX.res, hX.Q, List.getElem?_cons_zero, List.getElem?_cons_succ, seval, Et, h1]
    repeat (with_reducible refine And.intro (by first | assumption | omega | (simp only [i64in] at *; omega)) ?_)
    obtain rfl := Option.some.inj hsh
    refine post_give [] ?_
    simp [El2, El3, El4, Ev, El, Eb, Et, h1]
  · rw [if_neg h1] at hsh; replace h1 := neg_b h1
    simp only [Erun, Ek, Ev, El, Ea, Eu, hX.res, hX.Q, List.getElem?_cons_zero, List.getElem?_cons_succ, seval, Et, h1]
    repeat (with_reducible refine And.intro (by first | assumption | omega | (simp only [i64in] at *; omega)) ?_)
    obtain ⟨inde, h2, hsh⟩ := Option.bind_eq_some_iff.1 hsh
    have h2k := c_stringslite_IndexByte N s 58 inde h2
    rw [← hX.P] at h2k
    refine .inl (vcall_pure _ (by rw [hX.P]; exact is_stringslite_IndexByte.enters) h2k (fun H => (by simp [El2, El3, El4, Ev, El, Eb, Et, h1])) ?_)
    refine run_go 1000 _ _ _ _ ?_
    simp only [Erun, Ek, Ev, El, Ea, Eu, hX.res, hX.Q, List.getElem?_cons_zero, List.getElem?_cons_succ, seval, Et, h1]
    repeat (with_reducible refine And.intro (by first | assumption | omega | (simp only [i64in] at *; omega)) ?_)
    obtain rfl := Option.some.inj hsh
    refine post_give [] ?_
    simp [El2, El3, El4, Ev, El, Eb, Et, h1]
end Go.Proofs.YtfblfapkpieckaaDoor.W
namespace Go.Proofs.YtfblfapkpieckaaDoor.W
open Go
open Go.Proofs.Tryd
set_option linter.unusedSimpArgs false
set_option linter.unusedVariables false
set_option maxHeartbeats 8000000 in
theorem c_ref32_Same (N : Nat) (a : gate_Gate) (b : gate_Gate) (r : Bool) (hsh : s_ref32_Same N a b = some r) : CRes prog 10 [gate_Gate.av a, gate_Gate.av b] .nil (.ret (.v (.bool r))) .nil := by
  refine is_ref32_Same.run hm 1000 _ rfl fun X hX => ?_
  simp only [List.length_cons, List.length_nil, List.replicate, Nat.reduceAdd, Nat.reduceSub, El, Et]
  rw [s_ref32_Same] at hsh
  simp only [Erun, Ek, Ev, El, Ea, Eu, hX.res, hX.Q, List.getElem?_cons_zero, List.getElem?_cons_succ, seval, Et]
  repeat (with_reducible refine And.intro (by first | assumption | omega | (simp only [i64in] at *; omega)) ?_)
  obtain ⟨same, h1, hsh⟩ := Option.bind_eq_some_iff.1 hsh
  have h1k := c_ref06_Same N a.Types b.Types same h1
  rw [← hX.P] at h1k
  refine .inl (vcall_pure _ (by rw [hX.P]; exact is_ref06_Same.enters) h1k (fun H => (by simp [El2, El3, El4, Ev, El, Eb, Et])) ?_)
  refine run_go 1000 _ _ _ _ ?_
  simp only [Erun, Ek, Ev, El, Ea, Eu, hX.res, hX.Q, List.getElem?_cons_zero, List.getElem?_cons_succ, seval, Et]
  repeat (with_reducible refine And.intro (by first | assumption | omega | (simp only [i64in] at *; omega)) ?_)
  by_cases h2 : same = true
  · rw [if_pos h2] at hsh
    simp only [Erun, Ek, Ev, El, Ea, Eu, hX.res, hX.Q, List.getElem?_cons_zero, List.getElem?_cons_succ, seval, Et, h2]
    repeat (with_reducible refine And.intro (by first | assumption | omega | (simp only [i64in] at *; omega)) ?_)
    by_cases h3 : ((List.length a.L : Int) != (List.length b.L : Int)) = true
    · rw [if_pos h3] at hsh
      simp only [Erun, Ek, Ev, El, Ea, Eu, hX.res, hX.Q, List.getElem?_cons_zero, List.getElem?_cons_succ, seval, Et, h2, h3]
      repeat (with_reducible refine And.intro (by first | assumption | omega | (simp only [i64in] at *; omega)) ?_)
      obtain rfl := Option.some.inj hsh
      refine post_give [] ?_
      simp [El2, El3, El4, Ev, El, Eb, Et, h2, h3]
    · rw [if_neg h3] at hsh; replace h3 := neg_b h3
      simp only [Erun, Ek, Ev, El, Ea, Eu, hX.res, hX.Q, List.getElem?_cons_zero, List.getElem?_cons_succ, seval, Et, h2, h3]
      repeat (with_reducible refine And.intro (by first | assumption | omega | (simp only [i64in] at *; omega)) ?_)
      refine go_lessG hX [] [0, 1] [] _ _ (by rfl) (by rfl) (by simp [El2, El3, El4, Ev, El, Eb, Et, h2, h3]) (by simp [El2, El3, El4, Ev, El, Eb, Et, h2, h3]) (by rfl) (by rfl) (by simp [El2, El3, El4, Ev, El, Eb, Et, h2, h3]) (go_loop1 (fun (i : Int) => ([.any, .any, .ptr 0 0, .ptr 1 0, .any, .v (.int .i64 i)] ++ List.replicate 33 .any)) (fun (i : Int) => ⟨[[.sl 2 (List.map schema_Type.av a.Types), .sl 3 (List.map gate_Source.av a.L)], [.sl 2 (List.map schema_Type.av b.Types), .sl 3 (List.map gate_Source.av b.L)]], []⟩) 1000 (fun next1 ih1 i hsh => ?_) N 0 hsh)
      simp only [List.replicate, El] at ih1 ⊢
      rw [s_ref32_Same_1] at hsh
      simp only [Erun, Ek, Ev, El, Ea, Eu, hX.res, hX.Q, List.getElem?_cons_zero, List.getElem?_cons_succ, seval, Et, h2, h3]
      repeat (with_reducible refine And.intro (by first | assumption | omega | (simp only [i64in] at *; omega)) ?_)
      by_cases h4 : (decide (i < (List.length a.L : Int))) = true
      · rw [if_pos h4] at hsh
        obtain ⟨e, h5x, hsh⟩ := Option.bind_eq_some_iff.1 hsh
        obtain ⟨h5a, h5b, h5c, h5d⟩ := ix_some h5x
        obtain ⟨e2, h6x, hsh⟩ := Option.bind_eq_some_iff.1 hsh
        obtain ⟨h6a, h6b, h6c, h6d⟩ := ix_some h6x
        simp only [Erun, Ek, Ev, El, Ea, Eu, hX.res, hX.Q, List.getElem?_cons_zero, List.getElem?_cons_succ, seval, Et, h2, h3, h4, h5a, h5b, h5c, h5d, h6a, h6b, h6c, h6d]
        repeat (with_reducible refine And.intro (by first | assumption | omega | (simp only [i64in] at *; omega)) ?_)
        by_cases h7 : ((e.Front == e2.Front) && ((e.Last == e2.Last) && (e.Closed == e2.Closed))) = true
        · rw [if_pos h7] at hsh
          obtain ⟨h8, hsh⟩ := guard_some hsh
          simp only [Erun, Ek, Ev, El, Ea, Eu, hX.res, hX.Q, List.getElem?_cons_zero, List.getElem?_cons_succ, seval, Et, h2, h3, h4, h5a, h5b, h5c, h5d, h6a, h6b, h6c, h6d, h7, h8]
          repeat (with_reducible refine And.intro (by first | assumption | omega | (simp only [i64in] at *; omega)) ?_)
          exact go_lessG hX [] [0, 1] [] _ _ (by rfl) (by rfl) (by simp [El2, El3, El4, Ev, El, Eb, Et, h2, h3, h4, h5a, h5b, h5c, h5d, h6a, h6b, h6c, h6d, h7, h8]) (by simp [El2, El3, El4, Ev, El, Eb, Et, h2, h3, h4, h5a, h5b, h5c, h5d, h6a, h6b, h6c, h6d, h7, h8]) (by rfl) (by rfl) (by simp [El2, El3, El4, Ev, El, Eb, Et, h2, h3, h4, h5a, h5b, h5c, h5d, h6a, h6b, h6c, h6d, h7, h8]) (ih1 (i + 1) hsh)
        · rw [if_neg h7] at hsh; replace h7 := neg_b h7
          simp only [Erun, Ek, Ev, El, Ea, Eu, hX.res, hX.Q, List.getElem?_cons_zero, List.getElem?_cons_succ, seval, Et, h2, h3, h4, h5a, h5b, h5c, h5d, h6a, h6b, h6c, h6d, h7]
          repeat (with_reducible refine And.intro (by first | assumption | omega | (simp only [i64in] at *; omega)) ?_)
          obtain rfl := Option.some.inj hsh
          refine post_give [] ?_
          simp [El2, El3, El4, Ev, El, Eb, Et, h2, h3, h4, h5a, h5b, h5c, h5d, h6a, h6b, h6c, h6d, h7]
      · rw [if_neg h4] at hsh; replace h4 := neg_b h4
        simp only [Erun, Ek, Ev, El, Ea, Eu, hX.res, hX.Q, List.getElem?_cons_zero, List.getElem?_cons_succ, seval, Et, h2, h3, h4]
        repeat (with_reducible refine And.intro (by first | assumption | omega | (simp only [i64in] at *; omega)) ?_)
        obtain rfl := Option.some.inj hsh
        refine post_give [] ?_
        simp [El2, El3, El4, Ev, El, Eb, Et, h2, h3, h4]
  · rw [if_neg h2] at hsh; replace h2 := neg_b h2
    simp only [Erun, Ek, Ev, El, Ea, Eu, hX.res, hX.Q, List.getElem?_cons_zero, List.getElem?_cons_succ, seval, Et, h2]
    repeat (with_reducible refine And.intro (by first | assumption | omega | (simp only [i64in] at *; omega)) ?_)
    obtain rfl := Option.some.inj hsh
    refine post_give [] ?_
    simp [El2, El3, El4, Ev, El, Eb, Et, h2]
set_option maxHeartbeats 8000000 in
theorem c_ref32_Advance (N : Nat) (g : gate_Gate) (s : Int) (time : Int) (r : gate_Gate × Int) (hsh : s_ref32_Advance N g s time = some r) : CRes prog 19 [gate_Gate.av g, .v (.int .i64 s), .v (.int .i64 time)] .nil (.ret (.tup [gate_Gate.av r.1, .v (.int .i64 r.2)])) .nil := by
  refine is_ref32_Advance.run hm 1000 _ rfl fun X hX => ?_
  simp only [List.length_cons, List.length_nil, List.replicate, Nat.reduceAdd, Nat.reduceSub, El, Et]
  rw [s_ref32_Advance] at hsh
  simp only [Erun, Ek, Ev, El, Ea, Eu, hX.res, hX.Q, List.getElem?_cons_zero, List.getElem?_cons_succ, seval, Et]
  repeat (with_reducible refine And.intro (by first | assumption | omega | (simp only [i64in] at *; omega)) ?_)
  obtain ⟨vopen, h1, hsh⟩ := Option.bind_eq_some_iff.1 hsh
  have h1k := c_ref32_open N g s vopen h1
  rw [← hX.P] at h1k
  refine .inl (vcall_pure _ (by rw [hX.P]; exact is_ref32_open.enters) h1k (fun H => (by simp [El2, El3, El4, Ev, El, Eb, Et])) ?_)
  refine run_go 1000 _ _ _ _ ?_
  simp only [Erun, Ek, Ev, El, Ea, Eu, hX.res, hX.Q, List.getElem?_cons_zero, List.getElem?_cons_succ, seval, Et]
  repeat (with_reducible refine And.intro (by first | assumption | omega | (simp only [i64in] at *; omega)) ?_)
  by_cases h2 : (vopen != 0) = true
  · rw [if_pos h2] at hsh
    simp only [Erun, Ek, Ev, El, Ea, Eu, hX.res, hX.Q, List.getElem?_cons_zero, List.getElem?_cons_succ, seval, Et, h2]
    repeat (with_reducible refine And.intro (by first | assumption | omega | (simp only [i64in] at *; omega)) ?_)
    obtain rfl := Option.some.inj hsh
    refine post_give [] ?_
    simp [El2, El3, El4, Ev, El, Eb, Et, h2]
  · rw [if_neg h2] at hsh; replace h2 := neg_b h2
    obtain ⟨e, h3x, hsh⟩ := Option.bind_eq_some_iff.1 hsh
    obtain ⟨h3a, h3b, h3c, h3d⟩ := ix_some h3x
    simp only [Erun, Ek, Ev, El, Ea, Eu, hX.res, hX.Q, List.getElem?_cons_zero, List.getElem?_cons_succ, seval, Et, h2, h3a, h3b, h3c, h3d]
    repeat (with_reducible refine And.intro (by first | assumption | omega | (simp only [i64in] at *; omega)) ?_)
    by_cases h4 : (decide (time < e.Front)) = true
    · rw [if_pos h4] at hsh
      simp only [Erun, Ek, Ev, El, Ea, Eu, hX.res, hX.Q, List.getElem?_cons_zero, List.getElem?_cons_succ, seval, Et, h2, h3a, h3b, h3c, h3d, h4]
      repeat (with_reducible refine And.intro (by first | assumption | omega | (simp only [i64in] at *; omega)) ?_)
      obtain rfl := Option.some.inj hsh
      refine post_give [] ?_
      simp [El2, El3, El4, Ev, El, Eb, Et, h2, h3a, h3b, h3c, h3d, h4]
    · rw [if_neg h4] at hsh; replace h4 := neg_b h4
      simp only [Erun, Ek, Ev, El, Ea, Eu, hX.res, hX.Q, List.getElem?_cons_zero, List.getElem?_cons_succ, seval, Et, h2, h3a, h3b, h3c, h3d, h4]
      repeat (with_reducible refine And.intro (by first | assumption | omega | (simp only [i64in] at *; omega)) ?_)
      by_cases h5 : (decide (time > 1099511627776)) = true
      · rw [if_pos h5] at hsh
        simp only [Erun, Ek, Ev, El, Ea, Eu, hX.res, hX.Q, List.getElem?_cons_zero, List.getElem?_cons_succ, seval, Et, h2, h3a, h3b, h3c, h3d, h4, h5]
        repeat (with_reducible refine And.intro (by first | assumption | omega | (simp only [i64in] at *; omega)) ?_)
        obtain rfl := Option.some.inj hsh
        refine post_give [] ?_
        simp [El2, El3, El4, Ev, El, Eb, Et, h2, h3a, h3b, h3c, h3d, h4, h5]
      · rw [if_neg h5] at hsh; replace h5 := neg_b h5
        simp only [Erun, Ek, Ev, El, Ea, Eu, hX.res, hX.Q, List.getElem?_cons_zero, List.getElem?_cons_succ, seval, Et, h2, h3a, h3b, h3c, h3d, h4, h5]
        repeat (with_reducible refine And.intro (by first | assumption | omega | (simp only [i64in] at *; omega)) ?_)
        obtain ⟨vwith, h6, hsh⟩ := Option.bind_eq_some_iff.1 hsh
        have h6k := c_ref32_with N g s (gate_Source.mk time e.Last false) vwith h6
        rw [← hX.P] at h6k
        refine .inl (vcall_pure _ (by rw [hX.P]; exact is_ref32_with.enters) h6k (fun H => (by simp [El2, El3, El4, Ev, El, Eb, Et, h2, h3a, h3b, h3c, h3d, h4, h5])) ?_)
        refine run_go 1000 _ _ _ _ ?_
        simp only [Erun, Ek, Ev, El, Ea, Eu, hX.res, hX.Q, List.getElem?_cons_zero, List.getElem?_cons_succ, seval, Et, h2, h3a, h3b, h3c, h3d, h4, h5]
        repeat (with_reducible refine And.intro (by first | assumption | omega | (simp only [i64in] at *; omega)) ?_)
        obtain rfl := Option.some.inj hsh
        refine post_give [] ?_
        simp [El2, El3, El4, Ev, El, Eb, Et, h2, h3a, h3b, h3c, h3d, h4, h5]
set_option maxHeartbeats 8000000 in
theorem c_law32_Back (N : Nat) (g : gate_Gate) (r : gate_Gate) (hsh : s_law32_Back N g = some r) : CRes prog 11 [gate_Gate.av g] .nil (.ret (gate_Gate.av r)) .nil := by
  refine is_law32_Back.run hm 1000 _ rfl fun X hX => ?_
  simp only [List.length_cons, List.length_nil, List.replicate, Nat.reduceAdd, Nat.reduceSub, El, Et]
  rw [s_law32_Back] at hsh
  simp only [Erun, Ek, Ev, El, Ea, Eu, hX.res, hX.Q, List.getElem?_cons_zero, List.getElem?_cons_succ, seval, Et]
  repeat (with_reducible refine And.intro (by first | assumption | omega | (simp only [i64in] at *; omega)) ?_)
  obtain ⟨back, h1, hsh⟩ := Option.bind_eq_some_iff.1 hsh
  have h1k := c_law06_Back N g.Types back h1
  rw [← hX.P] at h1k
  refine .inl (vcall_pure _ (by rw [hX.P]; exact is_law06_Back.enters) h1k (fun H => (by simp [El2, El3, El4, Ev, El, Eb, Et])) ?_)
  refine run_go 1000 _ _ _ _ ?_
  simp only [Erun, Ek, Ev, El, Ea, Eu, hX.res, hX.Q, List.getElem?_cons_zero, List.getElem?_cons_succ, seval, Et]
  repeat (with_reducible refine And.intro (by first | assumption | omega | (simp only [i64in] at *; omega)) ?_)
  refine go_empb 2 1 3 trivial (by simp) (by simp [List.getD]) rfl ?_
  simp only [El, Ea]
  refine go_lessG hX [] [0, 1, 2] [0] _ _ (by rfl) (by rfl) (by simp [El2, El3, El4, Ev, El, Eb, Et]) (by simp [El2, El3, El4, Ev, El, Eb, Et]) (by rfl) (by rfl) (by simp [El2, El3, El4, Ev, El, Eb, Et]) (go_loop2 (fun (i : Int) (ys : List gate_Source) => ([.any, .ptr 0 0, .ptr 1 0, .ptr 2 0, .v (.int .i64 i)] ++ List.replicate 22 .any)) (fun (i : Int) (ys : List gate_Source) => ⟨[[.sl 2 (List.map schema_Type.av g.Types), .sl 3 (List.map gate_Source.av g.L)], [.emp, .emp], [.sl 2 (List.map schema_Type.av back), .own 0]], [.live 3 (List.map gate_Source.av ys)]⟩) 1000 (fun next1 ih1 i ys hsh => ?_) N 0 [] hsh)
  simp only [List.replicate, El] at ih1 ⊢
  rw [s_law32_Back_1] at hsh
  simp only [Erun, Ek, Ev, El, Ea, Eu, hX.res, hX.Q, List.getElem?_cons_zero, List.getElem?_cons_succ, seval, Et]
  repeat (with_reducible refine And.intro (by first | assumption | omega | (simp only [i64in] at *; omega)) ?_)
  by_cases h2 : (decide (i < (List.length g.L : Int))) = true
  · rw [if_pos h2] at hsh
    obtain ⟨e, h3x, hsh⟩ := Option.bind_eq_some_iff.1 hsh
    obtain ⟨h3a, h3b, h3c, h3d⟩ := ix_some h3x
    obtain ⟨h4, hsh⟩ := guard_some hsh
    have g5 : (List.map gate_Source.av ys) ++ ([.agg [.v (.int .i64 e.Front), .v (.int .i64 e.Last), .v (.bool e.Closed)]] : List AV) = (List.map gate_Source.av (ys ++ [e])) := by simp [Et]
    obtain ⟨h6, hsh⟩ := guard_some hsh
    simp only [Erun, Ek, Ev, El, Ea, Eu, hX.res, hX.Q, List.getElem?_cons_zero, List.getElem?_cons_succ, seval, Et, h2, h3a, h3b, h3c, h3d, h4, g5, h6]
    repeat (with_reducible refine And.intro (by first | assumption | omega | (simp only [i64in] at *; omega)) ?_)
    exact go_lessG hX [] [0, 1, 2] [1] _ _ (by rfl) (by rfl) (by simp [El2, El3, El4, Ev, El, Eb, Et, h2, h3a, h3b, h3c, h3d, h4, h6]) (by simp [El2, El3, El4, Ev, El, Eb, Et, h2, h3a, h3b, h3c, h3d, h4, h6]) (by rfl) (by rfl) (by simp [El2, El3, El4, Ev, El, Eb, Et, h2, h3a, h3b, h3c, h3d, h4, h6]) (ih1 (i + 1) (ys ++ [e]) hsh)
  · rw [if_neg h2] at hsh; replace h2 := neg_b h2
    simp only [Erun, Ek, Ev, El, Ea, Eu, hX.res, hX.Q, List.getElem?_cons_zero, List.getElem?_cons_succ, seval, Et, h2]
    repeat (with_reducible refine And.intro (by first | assumption | omega | (simp only [i64in] at *; omega)) ?_)
    obtain rfl := Option.some.inj hsh
    refine post_give [0] ?_
    simp [El2, El3, El4, Ev, El, Eb, Et, h2]
set_option maxHeartbeats 8000000 in
theorem c_gate_Gate_turn_v778 (N : Nat) (g : gate_Gate) (s : Int) (y : Int) (y2 : Int) (y3 : Int) (y4 : List UInt8) (y5 : List value_Value) (r : gate_Gate) (hsh : s_gate_Gate_turn_v778 N g s y y2 y3 y4 y5 = some r) : CRes prog 38 [gate_Gate.av g, .v (.int .i64 s), .fn (.func 39) [] [.ptr 0 0]] ⟨[[.v (.int .i64 y), .v (.int .i64 y2), .v (.int .i64 y3), .v (.string (bs y4)), .sl 4 (List.map value_Value.av y5)]], []⟩ (.ret (.agg [.sl 2 (List.map schema_Type.av r.Types), .sl 3 (List.map gate_Source.av r.L)])) ⟨[[.v (.int .i64 y), .v (.int .i64 y2), .v (.int .i64 y3), .v (.string (bs y4)), .sl 4 (List.map value_Value.av y5)]], []⟩ := by
  refine is_gate_Gate_turn.run hm 1000 _ rfl fun X hX => ?_
  simp only [List.length_cons, List.length_nil, List.replicate, Nat.reduceAdd, Nat.reduceSub, El, Et]
  rw [s_gate_Gate_turn_v778] at hsh
  simp only [Erun, Ek, Ev, El, Ea, Eu, hX.res, hX.Q, List.getElem?_cons_zero, List.getElem?_cons_succ, seval, Et]
  repeat (with_reducible refine And.intro (by first | assumption | omega | (simp only [i64in] at *; omega)) ?_)
  obtain ⟨sour, h1, hsh⟩ := Option.bind_eq_some_iff.1 hsh
  have h1k := c_slices_Clone_gate_Source_own N g.L sour h1
  rw [← hX.P] at h1k
  refine .inl (vcall_lift [] [] [] _ (by rw [hX.P]; exact is_slices_Clone_gate_Source.enters) h1k (by simp [El2, El3, El4, Ev, El, Eb, Et]) (by simp [El2, El3, El4, Ev, El, Eb, Et]) (by rfl) (by rfl) (by rfl) (by simp [El2, El3, El4, Ev, El, Eb, Et]) ?_)
  simp only [Eu, El, Ev, Ea, Nat.reduceAdd, AH.nil]
  refine run_go 1000 _ _ _ _ ?_
  obtain ⟨e, h2x, hsh⟩ := Option.bind_eq_some_iff.1 hsh
  obtain ⟨h2a, h2b, h2c, h2d⟩ := ix_some h2x
  simp only [Erun, Ek, Ev, El, Ea, Eu, hX.res, hX.Q, List.getElem?_cons_zero, List.getElem?_cons_succ, seval, Et, h2a, h2b, h2c, h2d]
  repeat (with_reducible refine And.intro (by first | assumption | omega | (simp only [i64in] at *; omega)) ?_)
  obtain ⟨l, h3, hsh⟩ := Option.bind_eq_some_iff.1 hsh
  have h3k := c_gate_Gate_Accept_L1_v149 N s y y2 y3 y4 y5 sour l h3
  rw [← hX.P] at h3k
  refine (vcall_lift [] [0] [0] _ (by rw [hX.P]; exact is_gate_Gate_Accept_L1.enters) h3k (by simp [El2, El3, El4, Ev, El, Eb, Et, h2a, h2b, h2c, h2d]) (by simp [El2, El3, El4, Ev, El, Eb, Et, h2a, h2b, h2c, h2d]) (by rfl) (by rfl) (by rfl) (by simp [El2, El3, El4, Ev, El, Eb, Et, h2a, h2b, h2c, h2d]) ?_)
  simp only [Eu, El, Ev, Ea, Nat.reduceAdd, AH.nil]
  refine run_go 1000 _ _ _ _ ?_
  simp only [Erun, Ek, Ev, El, Ea, Eu, hX.res, hX.Q, List.getElem?_cons_zero, List.getElem?_cons_succ, seval, Et, h2a, h2b, h2c, h2d]
  repeat (with_reducible refine And.intro (by first | assumption | omega | (simp only [i64in] at *; omega)) ?_)
  obtain rfl := Option.some.inj hsh
  exact post_all [0] [0] [] (by rfl) (by rfl) (by simp [El2, El3, El4, Ev, El, Eb, Et, h2a, h2b, h2c, h2d]) (by simp [El2, El3, El4, Ev, El, Eb, Et, h2a, h2b, h2c, h2d]) (by rfl) (by rfl) (by simp [El2, El3, El4, Ev, El, Eb, Et, h2a, h2b, h2c, h2d])
set_option maxHeartbeats 8000000 in
theorem c_real_Clean (N : Nat) (u : Int) (r : Int) (hsh : s_real_Clean N u = some r) : CRes prog 77 [.v (.int .u64 u)] .nil (.ret (.v (.int .u64 r))) .nil := by
  refine is_real_Clean.run hm 1000 _ rfl fun X hX => ?_
  simp only [List.length_cons, List.length_nil, List.replicate, Nat.reduceAdd, Nat.reduceSub, El, Et]
  rw [s_real_Clean] at hsh
  simp only [Erun, Ek, Ev, El, Ea, Eu, hX.res, hX.Q, List.getElem?_cons_zero, List.getElem?_cons_succ, seval, Et]
  repeat (with_reducible refine And.intro (by first | assumption | omega | (simp only [i64in] at *; omega)) ?_)
  obtain ⟨of, h1, hsh⟩ := Option.bind_eq_some_iff.1 hsh
  have h1k := c_real_of N u of h1
  rw [← hX.P] at h1k
  refine .inl (vcall_pure _ (by rw [hX.P]; exact is_real_of.enters) h1k (fun H => (by simp [El2, El3, El4, Ev, El, Eb, Et])) ?_)
  refine run_go 1000 _ _ _ _ ?_
  simp only [Erun, Ek, Ev, El, Ea, Eu, hX.res, hX.Q, List.getElem?_cons_zero, List.getElem?_cons_succ, seval, Et]
  repeat (with_reducible refine And.intro (by first | assumption | omega | (simp only [i64in] at *; omega)) ?_)
  refine (vraw_pure (fun _ => by rw [hX.P]; exact os_fcmp rfl rfl rfl) (r := .v (.bool (fcmpB .neq .f64 of of))) ?_)
  refine run_go 1000 _ _ _ _ ?_
  simp only [Erun, Ek, Ev, El, Ea, Eu, hX.res, hX.Q, List.getElem?_cons_zero, List.getElem?_cons_succ, seval, Et]
  repeat (with_reducible refine And.intro (by first | assumption | omega | (simp only [i64in] at *; omega)) ?_)
  by_cases h2 : (fcmpB .neq .f64 of of) = true
  · rw [if_pos h2] at hsh
    simp only [Erun, Ek, Ev, El, Ea, Eu, hX.res, hX.Q, List.getElem?_cons_zero, List.getElem?_cons_succ, seval, Et, h2]
    repeat (with_reducible refine And.intro (by first | assumption | omega | (simp only [i64in] at *; omega)) ?_)
    obtain rfl := Option.some.inj hsh
    refine post_give [] ?_
    simp [El2, El3, El4, Ev, El, Eb, Et, h2]
  · rw [if_neg h2] at hsh; replace h2 := neg_b h2
    simp only [Erun, Ek, Ev, El, Ea, Eu, hX.res, hX.Q, List.getElem?_cons_zero, List.getElem?_cons_succ, seval, Et, h2]
    repeat (with_reducible refine And.intro (by first | assumption | omega | (simp only [i64in] at *; omega)) ?_)
    obtain rfl := Option.some.inj hsh
    refine post_give [] ?_
    simp [El2, El3, El4, Ev, El, Eb, Et, h2]
set_option maxHeartbeats 8000000 in
theorem c_schema_Same_L1 (N : Nat) (x : schema_Type) (y : schema_Type) (r : Bool) (hsh : s_schema_Same_L1 N x y = some r) : CRes prog 56 [schema_Type.av x, schema_Type.av y] .nil (.ret (.v (.bool r))) .nil := by
  refine is_schema_Same_L1.run hm 1000 _ rfl fun X hX => ?_
  simp only [List.length_cons, List.length_nil, List.replicate, Nat.reduceAdd, Nat.reduceSub, El, Et]
  rw [s_schema_Same_L1] at hsh
  simp only [Erun, Ek, Ev, El, Ea, Eu, hX.res, hX.Q, List.getElem?_cons_zero, List.getElem?_cons_succ, seval, Et]
  repeat (with_reducible refine And.intro (by first | assumption | omega | (simp only [i64in] at *; omega)) ?_)
  by_cases h1 : (x.Name == y.Name) = true
  · rw [if_pos h1] at hsh
    simp only [Erun, Ek, Ev, El, Ea, Eu, hX.res, hX.Q, List.getElem?_cons_zero, List.getElem?_cons_succ, seval, Et, h1]
    repeat (with_reducible refine And.intro (by first | assumption | omega | (simp only [i64in] at *; omega)) ?_)
    obtain ⟨fiel, h2, hsh⟩ := Option.bind_eq_some_iff.1 hsh
    have h2k := c_slices_Equal_schema_Field N x.Fields y.Fields fiel h2
    rw [← hX.P] at h2k
    refine .inl (vcall_pure _ (by rw [hX.P]; exact is_slices_Equal_schema_Field.enters) h2k (fun H => (by simp [El2, El3, El4, Ev, El, Eb, Et, h1])) ?_)
    refine run_go 1000 _ _ _ _ ?_
    simp only [Erun, Ek, Ev, El, Ea, Eu, hX.res, hX.Q, List.getElem?_cons_zero, List.getElem?_cons_succ, seval, Et, h1]
    repeat (with_reducible refine And.intro (by first | assumption | omega | (simp only [i64in] at *; omega)) ?_)
    obtain rfl := Option.some.inj hsh
    refine post_give [] ?_
    simp [El2, El3, El4, Ev, El, Eb, Et, h1]
  · rw [if_neg h1] at hsh; replace h1 := neg_b h1
    simp only [Erun, Ek, Ev, El, Ea, Eu, hX.res, hX.Q, List.getElem?_cons_zero, List.getElem?_cons_succ, seval, Et, h1]
    repeat (with_reducible refine And.intro (by first | assumption | omega | (simp only [i64in] at *; omega)) ?_)
    obtain rfl := Option.some.inj hsh
    refine post_give [] ?_
    simp [El2, El3, El4, Ev, El, Eb, Et, h1]
end Go.Proofs.YtfblfapkpieckaaDoor.W
namespace Go.Proofs.YtfblfapkpieckaaDoor.W
open Go
open Go.Proofs.Tryd
set_option linter.unusedSimpArgs false
set_option linter.unusedVariables false
set_option maxHeartbeats 8000000 in
theorem c_value_Check (N : Nat) (v : value_Value) (r : Int) (hsh : s_value_Check N v = some r) : CRes prog 66 [value_Value.av v] .nil (.ret (.v (.int .i64 r))) .nil := by
  refine is_value_Check.run hm 1000 _ rfl fun X hX => ?_
  simp only [List.length_cons, List.length_nil, List.replicate, Nat.reduceAdd, Nat.reduceSub, El, Et]
  rw [s_value_Check] at hsh
  simp only [Erun, Ek, Ev, El, Ea, Eu, hX.res, hX.Q, List.getElem?_cons_zero, List.getElem?_cons_succ, seval, Et]
  repeat (with_reducible refine And.intro (by first | assumption | omega | (simp only [i64in] at *; omega)) ?_)
  obtain ⟨core, h1, hsh⟩ := Option.bind_eq_some_iff.1 hsh
  have h1k := c_value_core N v core h1
  rw [← hX.P] at h1k
  refine .inl (vcall_pure _ (by rw [hX.P]; exact is_value_core.enters) h1k (fun H => (by simp [El2, El3, El4, Ev, El, Eb, Et])) ?_)
  refine run_go 1000 _ _ _ _ ?_
  simp only [Erun, Ek, Ev, El, Ea, Eu, hX.res, hX.Q, List.getElem?_cons_zero, List.getElem?_cons_succ, seval, Et]
  repeat (with_reducible refine And.intro (by first | assumption | omega | (simp only [i64in] at *; omega)) ?_)
  cases core with
  | nil =>
    simp only [U_value_holds.el] at hsh
    simp only [Erun, Ek, Ev, El, Ea, Eu, hX.res, hX.Q, List.getElem?_cons_zero, List.getElem?_cons_succ, seval, Et]
    repeat (with_reducible refine And.intro (by first | assumption | omega | (simp only [i64in] at *; omega)) ?_)
    refine (vraw_pure (fun _ => by rw [hX.P]; exact os_ta_nil (by kernel_rfl : cTa prog 132 = some (.v (.int .i64 0))) rfl) (r := .tup [.v (.int .i64 0), .v (.bool false)]) ?_)
    refine run_go 1000 _ _ _ _ ?_
    simp only [Erun, Ek, Ev, El, Ea, Eu, hX.res, hX.Q, List.getElem?_cons_zero, List.getElem?_cons_succ, seval, Et]
    repeat (with_reducible refine And.intro (by first | assumption | omega | (simp only [i64in] at *; omega)) ?_)
    refine (vraw_pure (fun _ => by rw [hX.P]; exact os_ta_nil (by kernel_rfl : cTa prog 133 = some (.v (.int .i64 0))) rfl) (r := .tup [.v (.int .i64 0), .v (.bool false)]) ?_)
    refine run_go 1000 _ _ _ _ ?_
    simp only [Erun, Ek, Ev, El, Ea, Eu, hX.res, hX.Q, List.getElem?_cons_zero, List.getElem?_cons_succ, seval, Et]
    repeat (with_reducible refine And.intro (by first | assumption | omega | (simp only [i64in] at *; omega)) ?_)
    refine (vraw_pure (fun _ => by rw [hX.P]; exact os_ta_nil (by kernel_rfl : cTa prog 134 = some (.v (.int .u64 0))) rfl) (r := .tup [.v (.int .u64 0), .v (.bool false)]) ?_)
    refine run_go 1000 _ _ _ _ ?_
    simp only [Erun, Ek, Ev, El, Ea, Eu, hX.res, hX.Q, List.getElem?_cons_zero, List.getElem?_cons_succ, seval, Et]
    repeat (with_reducible refine And.intro (by first | assumption | omega | (simp only [i64in] at *; omega)) ?_)
    refine (vraw_pure (fun _ => by rw [hX.P]; exact os_ta_nil (by kernel_rfl : cTa prog 136 = some (.v (.string (bs [])))) rfl) (r := .tup [.v (.string (bs [])), .v (.bool false)]) ?_)
    refine run_go 1000 _ _ _ _ ?_
    simp only [Erun, Ek, Ev, El, Ea, Eu, hX.res, hX.Q, List.getElem?_cons_zero, List.getElem?_cons_succ, seval, Et]
    repeat (with_reducible refine And.intro (by first | assumption | omega | (simp only [i64in] at *; omega)) ?_)
    obtain rfl := Option.some.inj hsh
    refine post_give [] ?_
    simp [El2, El3, El4, Ev, El, Eb, Et]
  | double_ double =>
    simp only [U_value_holds.el] at hsh
    simp only [Erun, Ek, Ev, El, Ea, Eu, hX.res, hX.Q, List.getElem?_cons_zero, List.getElem?_cons_succ, seval, Et]
    repeat (with_reducible refine And.intro (by first | assumption | omega | (simp only [i64in] at *; omega)) ?_)
    refine (vraw_pure (fun _ => by rw [hX.P]; exact os_ta_miss (by kernel_rfl : cTa prog 132 = some (.v (.int .i64 0))) rfl rfl) (r := .tup [.v (.int .i64 0), .v (.bool false)]) ?_)
    refine run_go 1000 _ _ _ _ ?_
    simp only [Erun, Ek, Ev, El, Ea, Eu, hX.res, hX.Q, List.getElem?_cons_zero, List.getElem?_cons_succ, seval, Et]
    repeat (with_reducible refine And.intro (by first | assumption | omega | (simp only [i64in] at *; omega)) ?_)
    refine (vraw_pure (fun _ => by rw [hX.P]; exact os_ta_miss (by kernel_rfl : cTa prog 133 = some (.v (.int .i64 0))) rfl rfl) (r := .tup [.v (.int .i64 0), .v (.bool false)]) ?_)
    refine run_go 1000 _ _ _ _ ?_
    simp only [Erun, Ek, Ev, El, Ea, Eu, hX.res, hX.Q, List.getElem?_cons_zero, List.getElem?_cons_succ, seval, Et]
    repeat (with_reducible refine And.intro (by first | assumption | omega | (simp only [i64in] at *; omega)) ?_)
    refine (vraw_pure (fun _ => by rw [hX.P]; exact os_ta_hit (by kernel_rfl : cTa prog 134 = some (.v (.int .u64 0))) rfl) (r := .tup [.v (.int .u64 double), .v (.bool true)]) ?_)
    refine run_go 1000 _ _ _ _ ?_
    simp only [Erun, Ek, Ev, El, Ea, Eu, hX.res, hX.Q, List.getElem?_cons_zero, List.getElem?_cons_succ, seval, Et]
    repeat (with_reducible refine And.intro (by first | assumption | omega | (simp only [i64in] at *; omega)) ?_)
    obtain ⟨clea, h2, hsh⟩ := Option.bind_eq_some_iff.1 hsh
    have h2k := c_real_Clean N double clea h2
    rw [← hX.P] at h2k
    refine .inl (vcall_pure _ (by rw [hX.P]; exact is_real_Clean.enters) h2k (fun H => (by simp [El2, El3, El4, Ev, El, Eb, Et])) ?_)
    refine run_go 1000 _ _ _ _ ?_
    simp only [Erun, Ek, Ev, El, Ea, Eu, hX.res, hX.Q, List.getElem?_cons_zero, List.getElem?_cons_succ, seval, Et]
    repeat (with_reducible refine And.intro (by first | assumption | omega | (simp only [i64in] at *; omega)) ?_)
    by_cases h3 : (clea != double) = true
    · rw [if_pos h3] at hsh
      simp only [Erun, Ek, Ev, El, Ea, Eu, hX.res, hX.Q, List.getElem?_cons_zero, List.getElem?_cons_succ, seval, Et, h3]
      repeat (with_reducible refine And.intro (by first | assumption | omega | (simp only [i64in] at *; omega)) ?_)
      obtain rfl := Option.some.inj hsh
      refine post_give [] ?_
      simp [El2, El3, El4, Ev, El, Eb, Et, h3]
    · rw [if_neg h3] at hsh; replace h3 := neg_b h3
      simp only [Erun, Ek, Ev, El, Ea, Eu, hX.res, hX.Q, List.getElem?_cons_zero, List.getElem?_cons_succ, seval, Et, h3]
      repeat (with_reducible refine And.intro (by first | assumption | omega | (simp only [i64in] at *; omega)) ?_)
      obtain ⟨whol, h4, hsh⟩ := Option.bind_eq_some_iff.1 hsh
      have h4k := c_value_double_whole N double whol h4
      rw [← hX.P] at h4k
      skip
      refine vraw_pure (fun _ => by rw [hX.P]; exact os_inv (ad := 134) rfl (by kernel_rfl) is_value_double_whole.enters ((hX.P ▸ h4k).pure (by simp [El2, El3, El4, Ev, El, Eb, Et, h3]))) ?_
      refine run_go 1000 _ _ _ _ ?_
      simp only [Erun, Ek, Ev, El, Ea, Eu, hX.res, hX.Q, List.getElem?_cons_zero, List.getElem?_cons_succ, seval, Et, h3]
      repeat (with_reducible refine And.intro (by first | assumption | omega | (simp only [i64in] at *; omega)) ?_)
      by_cases h5 : ((whol.Kind == v.Kind) && ((whol.N == v.N) && ((whol.Bits == v.Bits) && (whol.Text == v.Text)))) = true
      · rw [if_pos h5] at hsh
        simp only [Erun, Ek, Ev, El, Ea, Eu, hX.res, hX.Q, List.getElem?_cons_zero, List.getElem?_cons_succ, seval, Et, h3, h5]
        repeat (with_reducible refine And.intro (by first | assumption | omega | (simp only [i64in] at *; omega)) ?_)
        obtain rfl := Option.some.inj hsh
        refine post_give [] ?_
        simp [El2, El3, El4, Ev, El, Eb, Et, h3, h5]
      · rw [if_neg h5] at hsh; replace h5 := neg_b h5
        simp only [Erun, Ek, Ev, El, Ea, Eu, hX.res, hX.Q, List.getElem?_cons_zero, List.getElem?_cons_succ, seval, Et, h3, h5]
        repeat (with_reducible refine And.intro (by first | assumption | omega | (simp only [i64in] at *; omega)) ?_)
        obtain rfl := Option.some.inj hsh
        refine post_give [] ?_
        simp [El2, El3, El4, Ev, El, Eb, Et, h3, h5]
  | flag_ flag =>
    simp only [U_value_holds.el] at hsh
    simp only [Erun, Ek, Ev, El, Ea, Eu, hX.res, hX.Q, List.getElem?_cons_zero, List.getElem?_cons_succ, seval, Et]
    repeat (with_reducible refine And.intro (by first | assumption | omega | (simp only [i64in] at *; omega)) ?_)
    refine (vraw_pure (fun _ => by rw [hX.P]; exact os_ta_miss (by kernel_rfl : cTa prog 132 = some (.v (.int .i64 0))) rfl rfl) (r := .tup [.v (.int .i64 0), .v (.bool false)]) ?_)
    refine run_go 1000 _ _ _ _ ?_
    simp only [Erun, Ek, Ev, El, Ea, Eu, hX.res, hX.Q, List.getElem?_cons_zero, List.getElem?_cons_succ, seval, Et]
    repeat (with_reducible refine And.intro (by first | assumption | omega | (simp only [i64in] at *; omega)) ?_)
    refine (vraw_pure (fun _ => by rw [hX.P]; exact os_ta_hit (by kernel_rfl : cTa prog 133 = some (.v (.int .i64 0))) rfl) (r := .tup [.v (.int .i64 flag), .v (.bool true)]) ?_)
    refine run_go 1000 _ _ _ _ ?_
    simp only [Erun, Ek, Ev, El, Ea, Eu, hX.res, hX.Q, List.getElem?_cons_zero, List.getElem?_cons_succ, seval, Et]
    repeat (with_reducible refine And.intro (by first | assumption | omega | (simp only [i64in] at *; omega)) ?_)
    by_cases h6 : (flag != 0) = true
    · rw [if_pos h6] at hsh
      simp only [Erun, Ek, Ev, El, Ea, Eu, hX.res, hX.Q, List.getElem?_cons_zero, List.getElem?_cons_succ, seval, Et, h6]
      repeat (with_reducible refine And.intro (by first | assumption | omega | (simp only [i64in] at *; omega)) ?_)
      by_cases h7 : (flag != 1) = true
      · rw [if_pos h7] at hsh
        simp only [Erun, Ek, Ev, El, Ea, Eu, hX.res, hX.Q, List.getElem?_cons_zero, List.getElem?_cons_succ, seval, Et, h6, h7]
        repeat (with_reducible refine And.intro (by first | assumption | omega | (simp only [i64in] at *; omega)) ?_)
        obtain rfl := Option.some.inj hsh
        refine post_give [] ?_
        simp [El2, El3, El4, Ev, El, Eb, Et, h6, h7]
      · rw [if_neg h7] at hsh; replace h7 := neg_b h7
        simp only [Erun, Ek, Ev, El, Ea, Eu, hX.res, hX.Q, List.getElem?_cons_zero, List.getElem?_cons_succ, seval, Et, h6, h7]
        repeat (with_reducible refine And.intro (by first | assumption | omega | (simp only [i64in] at *; omega)) ?_)
        obtain ⟨whol2, h8, hsh⟩ := Option.bind_eq_some_iff.1 hsh
        have h8k := c_value_flag_whole N flag whol2 h8
        rw [← hX.P] at h8k
        skip
        refine vraw_pure (fun _ => by rw [hX.P]; exact os_inv (ad := 133) rfl (by kernel_rfl) is_value_flag_whole.enters ((hX.P ▸ h8k).pure (by simp [El2, El3, El4, Ev, El, Eb, Et, h6, h7]))) ?_
        refine run_go 1000 _ _ _ _ ?_
        simp only [Erun, Ek, Ev, El, Ea, Eu, hX.res, hX.Q, List.getElem?_cons_zero, List.getElem?_cons_succ, seval, Et, h6, h7]
        repeat (with_reducible refine And.intro (by first | assumption | omega | (simp only [i64in] at *; omega)) ?_)
        by_cases h9 : ((whol2.Kind == v.Kind) && ((whol2.N == v.N) && ((whol2.Bits == v.Bits) && (whol2.Text == v.Text)))) = true
        · rw [if_pos h9] at hsh
          simp only [Erun, Ek, Ev, El, Ea, Eu, hX.res, hX.Q, List.getElem?_cons_zero, List.getElem?_cons_succ, seval, Et, h6, h7, h9]
          repeat (with_reducible refine And.intro (by first | assumption | omega | (simp only [i64in] at *; omega)) ?_)
          obtain rfl := Option.some.inj hsh
          refine post_give [] ?_
          simp [El2, El3, El4, Ev, El, Eb, Et, h6, h7, h9]
        · rw [if_neg h9] at hsh; replace h9 := neg_b h9
          simp only [Erun, Ek, Ev, El, Ea, Eu, hX.res, hX.Q, List.getElem?_cons_zero, List.getElem?_cons_succ, seval, Et, h6, h7, h9]
          repeat (with_reducible refine And.intro (by first | assumption | omega | (simp only [i64in] at *; omega)) ?_)
          obtain rfl := Option.some.inj hsh
          refine post_give [] ?_
          simp [El2, El3, El4, Ev, El, Eb, Et, h6, h7, h9]
    · rw [if_neg h6] at hsh; replace h6 := neg_b h6
      simp only [Erun, Ek, Ev, El, Ea, Eu, hX.res, hX.Q, List.getElem?_cons_zero, List.getElem?_cons_succ, seval, Et, h6]
      repeat (with_reducible refine And.intro (by first | assumption | omega | (simp only [i64in] at *; omega)) ?_)
      obtain ⟨whol3, h10, hsh⟩ := Option.bind_eq_some_iff.1 hsh
      have h10k := c_value_flag_whole N flag whol3 h10
      rw [← hX.P] at h10k
      skip
      refine vraw_pure (fun _ => by rw [hX.P]; exact os_inv (ad := 133) rfl (by kernel_rfl) is_value_flag_whole.enters ((hX.P ▸ h10k).pure (by simp [El2, El3, El4, Ev, El, Eb, Et, h6]))) ?_
      refine run_go 1000 _ _ _ _ ?_
      simp only [Erun, Ek, Ev, El, Ea, Eu, hX.res, hX.Q, List.getElem?_cons_zero, List.getElem?_cons_succ, seval, Et, h6]
      repeat (with_reducible refine And.intro (by first | assumption | omega | (simp only [i64in] at *; omega)) ?_)
      by_cases h11 : ((whol3.Kind == v.Kind) && ((whol3.N == v.N) && ((whol3.Bits == v.Bits) && (whol3.Text == v.Text)))) = true
      · rw [if_pos h11] at hsh
        simp only [Erun, Ek, Ev, El, Ea, Eu, hX.res, hX.Q, List.getElem?_cons_zero, List.getElem?_cons_succ, seval, Et, h6, h11]
        repeat (with_reducible refine And.intro (by first | assumption | omega | (simp only [i64in] at *; omega)) ?_)
        obtain rfl := Option.some.inj hsh
        refine post_give [] ?_
        simp [El2, El3, El4, Ev, El, Eb, Et, h6, h11]
      · rw [if_neg h11] at hsh; replace h11 := neg_b h11
        simp only [Erun, Ek, Ev, El, Ea, Eu, hX.res, hX.Q, List.getElem?_cons_zero, List.getElem?_cons_succ, seval, Et, h6, h11]
        repeat (with_reducible refine And.intro (by first | assumption | omega | (simp only [i64in] at *; omega)) ?_)
        obtain rfl := Option.some.inj hsh
        refine post_give [] ?_
        simp [El2, El3, El4, Ev, El, Eb, Et, h6, h11]
  | number_ number =>
    simp only [U_value_holds.el] at hsh
    simp only [Erun, Ek, Ev, El, Ea, Eu, hX.res, hX.Q, List.getElem?_cons_zero, List.getElem?_cons_succ, seval, Et]
    repeat (with_reducible refine And.intro (by first | assumption | omega | (simp only [i64in] at *; omega)) ?_)
    refine (vraw_pure (fun _ => by rw [hX.P]; exact os_ta_hit (by kernel_rfl : cTa prog 132 = some (.v (.int .i64 0))) rfl) (r := .tup [.v (.int .i64 number), .v (.bool true)]) ?_)
    refine run_go 1000 _ _ _ _ ?_
    simp only [Erun, Ek, Ev, El, Ea, Eu, hX.res, hX.Q, List.getElem?_cons_zero, List.getElem?_cons_succ, seval, Et]
    repeat (with_reducible refine And.intro (by first | assumption | omega | (simp only [i64in] at *; omega)) ?_)
    by_cases h12 : (decide (number < (-4611686018427387904))) = true
    · rw [if_pos h12] at hsh
      simp only [Erun, Ek, Ev, El, Ea, Eu, hX.res, hX.Q, List.getElem?_cons_zero, List.getElem?_cons_succ, seval, Et, h12]
      repeat (with_reducible refine And.intro (by first | assumption | omega | (simp only [i64in] at *; omega)) ?_)
      obtain rfl := Option.some.inj hsh
      refine post_give [] ?_
      simp [El2, El3, El4, Ev, El, Eb, Et, h12]
    · rw [if_neg h12] at hsh; replace h12 := neg_b h12
      simp only [Erun, Ek, Ev, El, Ea, Eu, hX.res, hX.Q, List.getElem?_cons_zero, List.getElem?_cons_succ, seval, Et, h12]
      repeat (with_reducible refine And.intro (by first | assumption | omega | (simp only [i64in] at *; omega)) ?_)
      by_cases h13 : (decide (number > 4611686018427387904)) = true
      · rw [if_pos h13] at hsh
        simp only [Erun, Ek, Ev, El, Ea, Eu, hX.res, hX.Q, List.getElem?_cons_zero, List.getElem?_cons_succ, seval, Et, h12, h13]
        repeat (with_reducible refine And.intro (by first | assumption | omega | (simp only [i64in] at *; omega)) ?_)
        obtain rfl := Option.some.inj hsh
        refine post_give [] ?_
        simp [El2, El3, El4, Ev, El, Eb, Et, h12, h13]
      · rw [if_neg h13] at hsh; replace h13 := neg_b h13
        simp only [Erun, Ek, Ev, El, Ea, Eu, hX.res, hX.Q, List.getElem?_cons_zero, List.getElem?_cons_succ, seval, Et, h12, h13]
        repeat (with_reducible refine And.intro (by first | assumption | omega | (simp only [i64in] at *; omega)) ?_)
        obtain ⟨whol4, h14, hsh⟩ := Option.bind_eq_some_iff.1 hsh
        have h14k := c_value_number_whole N number whol4 h14
        rw [← hX.P] at h14k
        skip
        refine vraw_pure (fun _ => by rw [hX.P]; exact os_inv (ad := 132) rfl (by kernel_rfl) is_value_number_whole.enters ((hX.P ▸ h14k).pure (by simp [El2, El3, El4, Ev, El, Eb, Et, h12, h13]))) ?_
        refine run_go 1000 _ _ _ _ ?_
        simp only [Erun, Ek, Ev, El, Ea, Eu, hX.res, hX.Q, List.getElem?_cons_zero, List.getElem?_cons_succ, seval, Et, h12, h13]
        repeat (with_reducible refine And.intro (by first | assumption | omega | (simp only [i64in] at *; omega)) ?_)
        by_cases h15 : ((whol4.Kind == v.Kind) && ((whol4.N == v.N) && ((whol4.Bits == v.Bits) && (whol4.Text == v.Text)))) = true
        · rw [if_pos h15] at hsh
          simp only [Erun, Ek, Ev, El, Ea, Eu, hX.res, hX.Q, List.getElem?_cons_zero, List.getElem?_cons_succ, seval, Et, h12, h13, h15]
          repeat (with_reducible refine And.intro (by first | assumption | omega | (simp only [i64in] at *; omega)) ?_)
          obtain rfl := Option.some.inj hsh
          refine post_give [] ?_
          simp [El2, El3, El4, Ev, El, Eb, Et, h12, h13, h15]
        · rw [if_neg h15] at hsh; replace h15 := neg_b h15
          simp only [Erun, Ek, Ev, El, Ea, Eu, hX.res, hX.Q, List.getElem?_cons_zero, List.getElem?_cons_succ, seval, Et, h12, h13, h15]
          repeat (with_reducible refine And.intro (by first | assumption | omega | (simp only [i64in] at *; omega)) ?_)
          obtain rfl := Option.some.inj hsh
          refine post_give [] ?_
          simp [El2, El3, El4, Ev, El, Eb, Et, h12, h13, h15]
  | words_ words =>
    simp only [U_value_holds.el] at hsh
    simp only [Erun, Ek, Ev, El, Ea, Eu, hX.res, hX.Q, List.getElem?_cons_zero, List.getElem?_cons_succ, seval, Et]
    repeat (with_reducible refine And.intro (by first | assumption | omega | (simp only [i64in] at *; omega)) ?_)
    refine (vraw_pure (fun _ => by rw [hX.P]; exact os_ta_miss (by kernel_rfl : cTa prog 132 = some (.v (.int .i64 0))) rfl rfl) (r := .tup [.v (.int .i64 0), .v (.bool false)]) ?_)
    refine run_go 1000 _ _ _ _ ?_
    simp only [Erun, Ek, Ev, El, Ea, Eu, hX.res, hX.Q, List.getElem?_cons_zero, List.getElem?_cons_succ, seval, Et]
    repeat (with_reducible refine And.intro (by first | assumption | omega | (simp only [i64in] at *; omega)) ?_)
    refine (vraw_pure (fun _ => by rw [hX.P]; exact os_ta_miss (by kernel_rfl : cTa prog 133 = some (.v (.int .i64 0))) rfl rfl) (r := .tup [.v (.int .i64 0), .v (.bool false)]) ?_)
    refine run_go 1000 _ _ _ _ ?_
    simp only [Erun, Ek, Ev, El, Ea, Eu, hX.res, hX.Q, List.getElem?_cons_zero, List.getElem?_cons_succ, seval, Et]
    repeat (with_reducible refine And.intro (by first | assumption | omega | (simp only [i64in] at *; omega)) ?_)
    refine (vraw_pure (fun _ => by rw [hX.P]; exact os_ta_miss (by kernel_rfl : cTa prog 134 = some (.v (.int .u64 0))) rfl rfl) (r := .tup [.v (.int .u64 0), .v (.bool false)]) ?_)
    refine run_go 1000 _ _ _ _ ?_
    simp only [Erun, Ek, Ev, El, Ea, Eu, hX.res, hX.Q, List.getElem?_cons_zero, List.getElem?_cons_succ, seval, Et]
    repeat (with_reducible refine And.intro (by first | assumption | omega | (simp only [i64in] at *; omega)) ?_)
    refine (vraw_pure (fun _ => by rw [hX.P]; exact os_ta_hit (by kernel_rfl : cTa prog 136 = some (.v (.string (bs [])))) rfl) (r := .tup [.v (.string (bs words)), .v (.bool true)]) ?_)
    refine run_go 1000 _ _ _ _ ?_
    simp only [Erun, Ek, Ev, El, Ea, Eu, hX.res, hX.Q, List.getElem?_cons_zero, List.getElem?_cons_succ, seval, Et]
    repeat (with_reducible refine And.intro (by first | assumption | omega | (simp only [i64in] at *; omega)) ?_)
    by_cases h16 : (decide ((List.length words : Int) > 24)) = true
    · rw [if_pos h16] at hsh
      simp only [Erun, Ek, Ev, El, Ea, Eu, hX.res, hX.Q, List.getElem?_cons_zero, List.getElem?_cons_succ, seval, Et, h16]
      repeat (with_reducible refine And.intro (by first | assumption | omega | (simp only [i64in] at *; omega)) ?_)
      obtain rfl := Option.some.inj hsh
      refine post_give [] ?_
      simp [El2, El3, El4, Ev, El, Eb, Et, h16]
    · rw [if_neg h16] at hsh; replace h16 := neg_b h16
      simp only [Erun, Ek, Ev, El, Ea, Eu, hX.res, hX.Q, List.getElem?_cons_zero, List.getElem?_cons_succ, seval, Et, h16]
      repeat (with_reducible refine And.intro (by first | assumption | omega | (simp only [i64in] at *; omega)) ?_)
      obtain ⟨whol5, h17, hsh⟩ := Option.bind_eq_some_iff.1 hsh
      have h17k := c_value_words_whole N words whol5 h17
      rw [← hX.P] at h17k
      skip
      refine vraw_pure (fun _ => by rw [hX.P]; exact os_inv (ad := 136) rfl (by kernel_rfl) is_value_words_whole.enters ((hX.P ▸ h17k).pure (by simp [El2, El3, El4, Ev, El, Eb, Et, h16]))) ?_
      refine run_go 1000 _ _ _ _ ?_
      simp only [Erun, Ek, Ev, El, Ea, Eu, hX.res, hX.Q, List.getElem?_cons_zero, List.getElem?_cons_succ, seval, Et, h16]
      repeat (with_reducible refine And.intro (by first | assumption | omega | (simp only [i64in] at *; omega)) ?_)
      by_cases h18 : ((whol5.Kind == v.Kind) && ((whol5.N == v.N) && ((whol5.Bits == v.Bits) && (whol5.Text == v.Text)))) = true
      · rw [if_pos h18] at hsh
        simp only [Erun, Ek, Ev, El, Ea, Eu, hX.res, hX.Q, List.getElem?_cons_zero, List.getElem?_cons_succ, seval, Et, h16, h18]
        repeat (with_reducible refine And.intro (by first | assumption | omega | (simp only [i64in] at *; omega)) ?_)
        obtain rfl := Option.some.inj hsh
        refine post_give [] ?_
        simp [El2, El3, El4, Ev, El, Eb, Et, h16, h18]
      · rw [if_neg h18] at hsh; replace h18 := neg_b h18
        simp only [Erun, Ek, Ev, El, Ea, Eu, hX.res, hX.Q, List.getElem?_cons_zero, List.getElem?_cons_succ, seval, Et, h16, h18]
        repeat (with_reducible refine And.intro (by first | assumption | omega | (simp only [i64in] at *; omega)) ?_)
        obtain rfl := Option.some.inj hsh
        refine post_give [] ?_
        simp [El2, El3, El4, Ev, El, Eb, Et, h16, h18]
end Go.Proofs.YtfblfapkpieckaaDoor.W
namespace Go.Proofs.YtfblfapkpieckaaDoor.W
open Go
open Go.Proofs.Tryd
set_option linter.unusedSimpArgs false
set_option linter.unusedVariables false
set_option maxHeartbeats 8000000 in
theorem c_ref06_one (N : Nat) (t : schema_Type) (r : Int) (hsh : s_ref06_one N t = some r) : CRes prog 49 [schema_Type.av t] .nil (.ret (.v (.int .i64 r))) .nil := by
  refine is_ref06_one.run hm 1000 _ rfl fun X hX => ?_
  simp only [List.length_cons, List.length_nil, List.replicate, Nat.reduceAdd, Nat.reduceSub, El, Et]
  rw [s_ref06_one] at hsh
  simp only [Erun, Ek, Ev, El, Ea, Eu, hX.res, hX.Q, List.getElem?_cons_zero, List.getElem?_cons_succ, seval, Et]
  repeat (with_reducible refine And.intro (by first | assumption | omega | (simp only [i64in] at *; omega)) ?_)
  obtain ⟨name, h1, hsh⟩ := Option.bind_eq_some_iff.1 hsh
  have h1k := c_ref06_Name N t.Name name h1
  rw [← hX.P] at h1k
  refine .inl (vcall_pure _ (by rw [hX.P]; exact is_ref06_Name.enters) h1k (fun H => (by simp [El2, El3, El4, Ev, El, Eb, Et])) ?_)
  refine run_go 1000 _ _ _ _ ?_
  simp only [Erun, Ek, Ev, El, Ea, Eu, hX.res, hX.Q, List.getElem?_cons_zero, List.getElem?_cons_succ, seval, Et]
  repeat (with_reducible refine And.intro (by first | assumption | omega | (simp only [i64in] at *; omega)) ?_)
  by_cases h2 : name = true
  · rw [if_pos h2] at hsh
    simp only [Erun, Ek, Ev, El, Ea, Eu, hX.res, hX.Q, List.getElem?_cons_zero, List.getElem?_cons_succ, seval, Et, h2]
    repeat (with_reducible refine And.intro (by first | assumption | omega | (simp only [i64in] at *; omega)) ?_)
    by_cases h3 : (decide ((List.length t.Fields : Int) > 6)) = true
    · rw [if_pos h3] at hsh
      simp only [Erun, Ek, Ev, El, Ea, Eu, hX.res, hX.Q, List.getElem?_cons_zero, List.getElem?_cons_succ, seval, Et, h2, h3]
      repeat (with_reducible refine And.intro (by first | assumption | omega | (simp only [i64in] at *; omega)) ?_)
      obtain rfl := Option.some.inj hsh
      refine post_give [] ?_
      simp [El2, El3, El4, Ev, El, Eb, Et, h2, h3]
    · rw [if_neg h3] at hsh; replace h3 := neg_b h3
      simp only [Erun, Ek, Ev, El, Ea, Eu, hX.res, hX.Q, List.getElem?_cons_zero, List.getElem?_cons_succ, seval, Et, h2, h3]
      repeat (with_reducible refine And.intro (by first | assumption | omega | (simp only [i64in] at *; omega)) ?_)
      refine go_lessG hX [] [0] [] _ _ (by rfl) (by rfl) (by simp [El2, El3, El4, Ev, El, Eb, Et, h2, h3]) (by simp [El2, El3, El4, Ev, El, Eb, Et, h2, h3]) (by rfl) (by rfl) (by simp [El2, El3, El4, Ev, El, Eb, Et, h2, h3]) (go_loop1 (fun (i : Int) => ([.any, .ptr 0 0, .any, .v (.int .i64 i)] ++ List.replicate 44 .any)) (fun (i : Int) => ⟨[[.v (.string (bs t.Name)), .sl 2 (List.map schema_Field.av t.Fields)]], []⟩) 1000 (fun next1 ih1 i hsh => ?_) N 0 hsh)
      simp only [List.replicate, El] at ih1 ⊢
      rw [s_ref06_one_1] at hsh
      simp only [Erun, Ek, Ev, El, Ea, Eu, hX.res, hX.Q, List.getElem?_cons_zero, List.getElem?_cons_succ, seval, Et, h2, h3]
      repeat (with_reducible refine And.intro (by first | assumption | omega | (simp only [i64in] at *; omega)) ?_)
      by_cases h4 : (decide (i < (List.length t.Fields : Int))) = true
      · rw [if_pos h4] at hsh
        obtain ⟨e, h5x, hsh⟩ := Option.bind_eq_some_iff.1 hsh
        obtain ⟨h5a, h5b, h5c, h5d⟩ := ix_some h5x
        simp only [Erun, Ek, Ev, El, Ea, Eu, hX.res, hX.Q, List.getElem?_cons_zero, List.getElem?_cons_succ, seval, Et, h2, h3, h4, h5a, h5b, h5c, h5d]
        repeat (with_reducible refine And.intro (by first | assumption | omega | (simp only [i64in] at *; omega)) ?_)
        obtain ⟨name2, h6, hsh⟩ := Option.bind_eq_some_iff.1 hsh
        have h6k := c_ref06_Name N e.Name name2 h6
        rw [← hX.P] at h6k
        refine .inl (vcall_pure _ (by rw [hX.P]; exact is_ref06_Name.enters) h6k (fun H => (by simp [El2, El3, El4, Ev, El, Eb, Et, h2, h3, h4, h5a, h5b, h5c, h5d])) ?_)
        refine run_go 1000 _ _ _ _ ?_
        simp only [Erun, Ek, Ev, El, Ea, Eu, hX.res, hX.Q, List.getElem?_cons_zero, List.getElem?_cons_succ, seval, Et, h2, h3, h4, h5a, h5b, h5c, h5d]
        repeat (with_reducible refine And.intro (by first | assumption | omega | (simp only [i64in] at *; omega)) ?_)
        by_cases h7 : name2 = true
        · rw [if_pos h7] at hsh
          simp only [Erun, Ek, Ev, El, Ea, Eu, hX.res, hX.Q, List.getElem?_cons_zero, List.getElem?_cons_succ, seval, Et, h2, h3, h4, h5a, h5b, h5c, h5d, h7]
          repeat (with_reducible refine And.intro (by first | assumption | omega | (simp only [i64in] at *; omega)) ?_)
          obtain ⟨word, h8, hsh⟩ := Option.bind_eq_some_iff.1 hsh
          have h8k := c_ref04_Word N e.Kind word h8
          rw [← hX.P] at h8k
          refine .inl (vcall_pure _ (by rw [hX.P]; exact is_ref04_Word.enters) h8k (fun H => (by simp [El2, El3, El4, Ev, El, Eb, Et, h2, h3, h4, h5a, h5b, h5c, h5d, h7])) ?_)
          refine run_go 1000 _ _ _ _ ?_
          simp only [Erun, Ek, Ev, El, Ea, Eu, hX.res, hX.Q, List.getElem?_cons_zero, List.getElem?_cons_succ, seval, Et, h2, h3, h4, h5a, h5b, h5c, h5d, h7]
          repeat (with_reducible refine And.intro (by first | assumption | omega | (simp only [i64in] at *; omega)) ?_)
          by_cases h9 : (word == []) = true
          · rw [if_pos h9] at hsh
            simp only [Erun, Ek, Ev, El, Ea, Eu, hX.res, hX.Q, List.getElem?_cons_zero, List.getElem?_cons_succ, seval, Et, h2, h3, h4, h5a, h5b, h5c, h5d, h7, h9]
            repeat (with_reducible refine And.intro (by first | assumption | omega | (simp only [i64in] at *; omega)) ?_)
            obtain rfl := Option.some.inj hsh
            refine post_give [] ?_
            simp [El2, El3, El4, Ev, El, Eb, Et, h2, h3, h4, h5a, h5b, h5c, h5d, h7, h9]
          · rw [if_neg h9] at hsh; replace h9 := neg_b h9
            simp only [Erun, Ek, Ev, El, Ea, Eu, hX.res, hX.Q, List.getElem?_cons_zero, List.getElem?_cons_succ, seval, Et, h2, h3, h4, h5a, h5b, h5c, h5d, h7, h9]
            repeat (with_reducible refine And.intro (by first | assumption | omega | (simp only [i64in] at *; omega)) ?_)
            refine go_lessG hX [] [0, 1] [] _ _ (by rfl) (by rfl) (by simp [El2, El3, El4, Ev, El, Eb, Et, h2, h3, h4, h5a, h5b, h5c, h5d, h7, h9]) (by simp [El2, El3, El4, Ev, El, Eb, Et, h2, h3, h4, h5a, h5b, h5c, h5d, h7, h9]) (by rfl) (by rfl) (by simp [El2, El3, El4, Ev, El, Eb, Et, h2, h3, h4, h5a, h5b, h5c, h5d, h7, h9]) (go_loop1 (fun (k : Int) => ([.any, .ptr 0 0, .any, .v (.int .i64 i), .ptr 1 0, .v (.int .i64 k)] ++ List.replicate 42 .any)) (fun (k : Int) => ⟨[[.v (.string (bs t.Name)), .sl 2 (List.map schema_Field.av t.Fields)], [.v (.string (bs e.Name)), .v (.int .u8 e.Kind)]], []⟩) 1000 (fun next2 ih2 k hsh => ?_) N 0 hsh)
            simp only [List.replicate, El] at ih2 ⊢
            rw [s_ref06_one_2] at hsh
            simp only [Erun, Ek, Ev, El, Ea, Eu, hX.res, hX.Q, List.getElem?_cons_zero, List.getElem?_cons_succ, seval, Et, h2, h3, h4, h5a, h5b, h5c, h5d, h7, h9]
            repeat (with_reducible refine And.intro (by first | assumption | omega | (simp only [i64in] at *; omega)) ?_)
            by_cases h10 : (decide (k < i)) = true
            · rw [if_pos h10] at hsh
              obtain ⟨e2, h11x, hsh⟩ := Option.bind_eq_some_iff.1 hsh
              obtain ⟨h11a, h11b, h11c, h11d⟩ := ix_some h11x
              simp only [Erun, Ek, Ev, El, Ea, Eu, hX.res, hX.Q, List.getElem?_cons_zero, List.getElem?_cons_succ, seval, Et, h2, h3, h4, h5a, h5b, h5c, h5d, h7, h9, h10, h11a, h11b, h11c, h11d]
              repeat (with_reducible refine And.intro (by first | assumption | omega | (simp only [i64in] at *; omega)) ?_)
              by_cases h12 : (e2.Name == e.Name) = true
              · rw [if_pos h12] at hsh
                simp only [Erun, Ek, Ev, El, Ea, Eu, hX.res, hX.Q, List.getElem?_cons_zero, List.getElem?_cons_succ, seval, Et, h2, h3, h4, h5a, h5b, h5c, h5d, h7, h9, h10, h11a, h11b, h11c, h11d, h12]
                repeat (with_reducible refine And.intro (by first | assumption | omega | (simp only [i64in] at *; omega)) ?_)
                obtain rfl := Option.some.inj hsh
                refine post_give [] ?_
                simp [El2, El3, El4, Ev, El, Eb, Et, h2, h3, h4, h5a, h5b, h5c, h5d, h7, h9, h10, h11a, h11b, h11c, h11d, h12]
              · rw [if_neg h12] at hsh; replace h12 := neg_b h12
                obtain ⟨h13, hsh⟩ := guard_some hsh
                simp only [Erun, Ek, Ev, El, Ea, Eu, hX.res, hX.Q, List.getElem?_cons_zero, List.getElem?_cons_succ, seval, Et, h2, h3, h4, h5a, h5b, h5c, h5d, h7, h9, h10, h11a, h11b, h11c, h11d, h12, h13]
                repeat (with_reducible refine And.intro (by first | assumption | omega | (simp only [i64in] at *; omega)) ?_)
                exact go_lessG hX [] [0, 1] [] _ _ (by rfl) (by rfl) (by simp [El2, El3, El4, Ev, El, Eb, Et, h2, h3, h4, h5a, h5b, h5c, h5d, h7, h9, h10, h11a, h11b, h11c, h11d, h12, h13]) (by simp [El2, El3, El4, Ev, El, Eb, Et, h2, h3, h4, h5a, h5b, h5c, h5d, h7, h9, h10, h11a, h11b, h11c, h11d, h12, h13]) (by rfl) (by rfl) (by simp [El2, El3, El4, Ev, El, Eb, Et, h2, h3, h4, h5a, h5b, h5c, h5d, h7, h9, h10, h11a, h11b, h11c, h11d, h12, h13]) (ih2 (k + 1) hsh)
            · rw [if_neg h10] at hsh; replace h10 := neg_b h10
              obtain ⟨h14, hsh⟩ := guard_some hsh
              simp only [Erun, Ek, Ev, El, Ea, Eu, hX.res, hX.Q, List.getElem?_cons_zero, List.getElem?_cons_succ, seval, Et, h2, h3, h4, h5a, h5b, h5c, h5d, h7, h9, h10, h14]
              repeat (with_reducible refine And.intro (by first | assumption | omega | (simp only [i64in] at *; omega)) ?_)
              exact go_lessG hX [] [0] [] _ _ (by rfl) (by rfl) (by simp [El2, El3, El4, Ev, El, Eb, Et, h2, h3, h4, h5a, h5b, h5c, h5d, h7, h9, h10, h14]) (by simp [El2, El3, El4, Ev, El, Eb, Et, h2, h3, h4, h5a, h5b, h5c, h5d, h7, h9, h10, h14]) (by rfl) (by rfl) (by simp [El2, El3, El4, Ev, El, Eb, Et, h2, h3, h4, h5a, h5b, h5c, h5d, h7, h9, h10, h14]) (ih1 (i + 1) hsh)
        · rw [if_neg h7] at hsh; replace h7 := neg_b h7
          simp only [Erun, Ek, Ev, El, Ea, Eu, hX.res, hX.Q, List.getElem?_cons_zero, List.getElem?_cons_succ, seval, Et, h2, h3, h4, h5a, h5b, h5c, h5d, h7]
          repeat (with_reducible refine And.intro (by first | assumption | omega | (simp only [i64in] at *; omega)) ?_)
          obtain rfl := Option.some.inj hsh
          refine post_give [] ?_
          simp [El2, El3, El4, Ev, El, Eb, Et, h2, h3, h4, h5a, h5b, h5c, h5d, h7]
      · rw [if_neg h4] at hsh; replace h4 := neg_b h4
        simp only [Erun, Ek, Ev, El, Ea, Eu, hX.res, hX.Q, List.getElem?_cons_zero, List.getElem?_cons_succ, seval, Et, h2, h3, h4]
        repeat (with_reducible refine And.intro (by first | assumption | omega | (simp only [i64in] at *; omega)) ?_)
        obtain rfl := Option.some.inj hsh
        refine post_give [] ?_
        simp [El2, El3, El4, Ev, El, Eb, Et, h2, h3, h4]
  · rw [if_neg h2] at hsh; replace h2 := neg_b h2
    simp only [Erun, Ek, Ev, El, Ea, Eu, hX.res, hX.Q, List.getElem?_cons_zero, List.getElem?_cons_succ, seval, Et, h2]
    repeat (with_reducible refine And.intro (by first | assumption | omega | (simp only [i64in] at *; omega)) ?_)
    obtain rfl := Option.some.inj hsh
    refine post_give [] ?_
    simp [El2, El3, El4, Ev, El, Eb, Et, h2]
set_option maxHeartbeats 8000000 in
theorem c_stringslite_Cut_v682 (N : Nat) (s : List UInt8) (r : List UInt8 × List UInt8 × Bool) (hsh : s_stringslite_Cut_v682 N s = some r) : CRes prog 58 [.v (.string (bs s)), .v (.string (bs [58]))] .nil (.ret (.tup [.v (.string (bs r.1)), .v (.string (bs r.2.1)), .v (.bool r.2.2)])) .nil := by
  refine is_stringslite_Cut.run hm 1000 _ rfl fun X hX => ?_
  simp only [List.length_cons, List.length_nil, List.replicate, Nat.reduceAdd, Nat.reduceSub, El, Et]
  rw [s_stringslite_Cut_v682] at hsh
  simp only [Erun, Ek, Ev, El, Ea, Eu, hX.res, hX.Q, List.getElem?_cons_zero, List.getElem?_cons_succ, seval, Et]
  repeat (with_reducible refine And.intro (by first | assumption | omega | (simp only [i64in] at *; omega)) ?_)
  obtain ⟨inde, h1, hsh⟩ := Option.bind_eq_some_iff.1 hsh
  have h1k := c_stringslite_Index_v682 N s inde h1
  rw [← hX.P] at h1k
  refine .inl (vcall_pure _ (by rw [hX.P]; exact is_stringslite_Index.enters) h1k (fun H => (by simp [El2, El3, El4, Ev, El, Eb, Et])) ?_)
  refine run_go 1000 _ _ _ _ ?_
  simp only [Erun, Ek, Ev, El, Ea, Eu, hX.res, hX.Q, List.getElem?_cons_zero, List.getElem?_cons_succ, seval, Et]
  repeat (with_reducible refine And.intro (by first | assumption | omega | (simp only [i64in] at *; omega)) ?_)
  by_cases h2 : (decide (inde ≥ 0)) = true
  · rw [if_pos h2] at hsh
    obtain ⟨h3, hsh⟩ := guard_some hsh
    obtain ⟨h4, hsh⟩ := guard_some hsh
    obtain ⟨h5, hsh⟩ := guard_some hsh
    simp only [Erun, Ek, Ev, El, Ea, Eu, hX.res, hX.Q, List.getElem?_cons_zero, List.getElem?_cons_succ, seval, Et, h2, h3, h4, h5]
    repeat (with_reducible refine And.intro (by first | assumption | omega | (simp only [i64in] at *; omega)) ?_)
    obtain rfl := Option.some.inj hsh
    refine post_give [] ?_
    simp [El2, El3, El4, Ev, El, Eb, Et, h2, h3, h4, h5]
  · rw [if_neg h2] at hsh; replace h2 := neg_b h2
    simp only [Erun, Ek, Ev, El, Ea, Eu, hX.res, hX.Q, List.getElem?_cons_zero, List.getElem?_cons_succ, seval, Et, h2]
    repeat (with_reducible refine And.intro (by first | assumption | omega | (simp only [i64in] at *; omega)) ?_)
    obtain rfl := Option.some.inj hsh
    refine post_give [] ?_
    simp [El2, El3, El4, Ev, El, Eb, Et, h2]
end Go.Proofs.YtfblfapkpieckaaDoor.W
namespace Go.Proofs.YtfblfapkpieckaaDoor.W
open Go
open Go.Proofs.Tryd
set_option linter.unusedSimpArgs false
set_option linter.unusedVariables false
set_option maxHeartbeats 8000000 in
theorem c_schema_Name (N : Nat) (s : List UInt8) (r : Bool) (hsh : s_schema_Name N s = some r) : CRes prog 61 [.v (.string (bs s))] .nil (.ret (.v (.bool r))) .nil := by
  refine is_schema_Name.run hm 1000 _ rfl fun X hX => ?_
  simp only [List.length_cons, List.length_nil, List.replicate, Nat.reduceAdd, Nat.reduceSub, El, Et]
  rw [s_schema_Name] at hsh
  simp only [Erun, Ek, Ev, El, Ea, Eu, hX.res, hX.Q, List.getElem?_cons_zero, List.getElem?_cons_succ, seval, Et]
  repeat (with_reducible refine And.intro (by first | assumption | omega | (simp only [i64in] at *; omega)) ?_)
  by_cases h1 : (s == []) = true
  · rw [if_pos h1] at hsh
    simp only [Erun, Ek, Ev, El, Ea, Eu, hX.res, hX.Q, List.getElem?_cons_zero, List.getElem?_cons_succ, seval, Et, h1]
    repeat (with_reducible refine And.intro (by first | assumption | omega | (simp only [i64in] at *; omega)) ?_)
    obtain rfl := Option.some.inj hsh
    refine post_give [] ?_
    simp [El2, El3, El4, Ev, El, Eb, Et, h1]
  · rw [if_neg h1] at hsh; replace h1 := neg_b h1
    simp only [Erun, Ek, Ev, El, Ea, Eu, hX.res, hX.Q, List.getElem?_cons_zero, List.getElem?_cons_succ, seval, Et, h1]
    repeat (with_reducible refine And.intro (by first | assumption | omega | (simp only [i64in] at *; omega)) ?_)
    by_cases h2 : (decide ((List.length s : Int) > 12)) = true
    · rw [if_pos h2] at hsh
      simp only [Erun, Ek, Ev, El, Ea, Eu, hX.res, hX.Q, List.getElem?_cons_zero, List.getElem?_cons_succ, seval, Et, h1, h2]
      repeat (with_reducible refine And.intro (by first | assumption | omega | (simp only [i64in] at *; omega)) ?_)
      obtain rfl := Option.some.inj hsh
      refine post_give [] ?_
      simp [El2, El3, El4, Ev, El, Eb, Et, h1, h2]
    · rw [if_neg h2] at hsh; replace h2 := neg_b h2
      obtain ⟨c, h3x, hsh⟩ := Option.bind_eq_some_iff.1 hsh
      obtain ⟨h3a, h3b, h3c, h3d⟩ := ix_some h3x
      simp only [Int.reduceToNat] at h3c h3d
      simp only [Erun, Ek, Ev, El, Ea, Eu, hX.res, hX.Q, List.getElem?_cons_zero, List.getElem?_cons_succ, seval, Et, h1, h2, h3a, h3b, h3c, h3d]
      repeat (with_reducible refine And.intro (by first | assumption | omega | (simp only [i64in] at *; omega)) ?_)
      obtain ⟨lett, h4, hsh⟩ := Option.bind_eq_some_iff.1 hsh
      have h4k := c_schema_letter N (UInt8.toNat c : Int) lett h4
      rw [← hX.P] at h4k
      refine .inl (vcall_pure _ (by rw [hX.P]; exact is_schema_letter.enters) h4k (fun H => (by simp [El2, El3, El4, Ev, El, Eb, Et, h1, h2, h3a, h3b, h3c, h3d])) ?_)
      refine run_go 1000 _ _ _ _ ?_
      simp only [Erun, Ek, Ev, El, Ea, Eu, hX.res, hX.Q, List.getElem?_cons_zero, List.getElem?_cons_succ, seval, Et, h1, h2, h3a, h3b, h3c, h3d]
      repeat (with_reducible refine And.intro (by first | assumption | omega | (simp only [i64in] at *; omega)) ?_)
      by_cases h5 : lett = true
      · rw [if_pos h5] at hsh
        simp only [Erun, Ek, Ev, El, Ea, Eu, hX.res, hX.Q, List.getElem?_cons_zero, List.getElem?_cons_succ, seval, Et, h1, h2, h3a, h3b, h3c, h3d, h5]
        repeat (with_reducible refine And.intro (by first | assumption | omega | (simp only [i64in] at *; omega)) ?_)
        obtain ⟨rese, h6, hsh⟩ := Option.bind_eq_some_iff.1 hsh
        have h6k := c_schema_Reserved N s rese h6
        rw [← hX.P] at h6k
        refine .inl (vcall_pure _ (by rw [hX.P]; exact is_schema_Reserved.enters) h6k (fun H => (by simp [El2, El3, El4, Ev, El, Eb, Et, h1, h2, h3a, h3b, h3c, h3d, h5])) ?_)
        refine run_go 1000 _ _ _ _ ?_
        simp only [Erun, Ek, Ev, El, Ea, Eu, hX.res, hX.Q, List.getElem?_cons_zero, List.getElem?_cons_succ, seval, Et, h1, h2, h3a, h3b, h3c, h3d, h5]
        repeat (with_reducible refine And.intro (by first | assumption | omega | (simp only [i64in] at *; omega)) ?_)
        by_cases h7 : rese = true
        · rw [if_pos h7] at hsh
          simp only [Erun, Ek, Ev, El, Ea, Eu, hX.res, hX.Q, List.getElem?_cons_zero, List.getElem?_cons_succ, seval, Et, h1, h2, h3a, h3b, h3c, h3d, h5, h7]
          repeat (with_reducible refine And.intro (by first | assumption | omega | (simp only [i64in] at *; omega)) ?_)
          obtain rfl := Option.some.inj hsh
          refine post_give [] ?_
          simp [El2, El3, El4, Ev, El, Eb, Et, h1, h2, h3a, h3b, h3c, h3d, h5, h7]
        · rw [if_neg h7] at hsh; replace h7 := neg_b h7
          simp only [Erun, Ek, Ev, El, Ea, Eu, hX.res, hX.Q, List.getElem?_cons_zero, List.getElem?_cons_succ, seval, Et, h1, h2, h3a, h3b, h3c, h3d, h5, h7]
          repeat (with_reducible refine And.intro (by first | assumption | omega | (simp only [i64in] at *; omega)) ?_)
          refine go_lessG hX [] [] [] _ _ (by rfl) (by rfl) (by simp [El2, El3, El4, Ev, El, Eb, Et, h1, h2, h3a, h3b, h3c, h3d, h5, h7]) (by simp [El2, El3, El4, Ev, El, Eb, Et, h1, h2, h3a, h3b, h3c, h3d, h5, h7]) (by rfl) (by rfl) (by simp [El2, El3, El4, Ev, El, Eb, Et, h1, h2, h3a, h3b, h3c, h3d, h5, h7]) (go_loop1 (fun (i : Int) => ([.v (.string (bs s)), .any, .any, .v (.int .i64 i)] ++ List.replicate 28 .any)) (fun (i : Int) => ⟨[], []⟩) 1000 (fun next1 ih1 i hsh => ?_) N 1 hsh)
          simp only [List.replicate, El] at ih1 ⊢
          rw [s_schema_Name_1] at hsh
          simp only [Erun, Ek, Ev, El, Ea, Eu, hX.res, hX.Q, List.getElem?_cons_zero, List.getElem?_cons_succ, seval, Et, h1, h2, h3a, h3b, h3c, h3d, h5, h7]
          repeat (with_reducible refine And.intro (by first | assumption | omega | (simp only [i64in] at *; omega)) ?_)
          by_cases h8 : (decide (i < (List.length s : Int))) = true
          · rw [if_pos h8] at hsh
            obtain ⟨c2, h9x, hsh⟩ := Option.bind_eq_some_iff.1 hsh
            obtain ⟨h9a, h9b, h9c, h9d⟩ := ix_some h9x
            simp only [Erun, Ek, Ev, El, Ea, Eu, hX.res, hX.Q, List.getElem?_cons_zero, List.getElem?_cons_succ, seval, Et, h1, h2, h3a, h3b, h3c, h3d, h5, h7, h8, h9a, h9b, h9c, h9d]
            repeat (with_reducible refine And.intro (by first | assumption | omega | (simp only [i64in] at *; omega)) ?_)
            obtain ⟨tail, h10, hsh⟩ := Option.bind_eq_some_iff.1 hsh
            have h10k := c_schema_tail N (UInt8.toNat c2 : Int) tail h10
            rw [← hX.P] at h10k
            refine .inl (vcall_pure _ (by rw [hX.P]; exact is_schema_tail.enters) h10k (fun H => (by simp [El2, El3, El4, Ev, El, Eb, Et, h1, h2, h3a, h3b, h3c, h3d, h5, h7, h8, h9a, h9b, h9c, h9d])) ?_)
            refine run_go 1000 _ _ _ _ ?_
            simp only [Erun, Ek, Ev, El, Ea, Eu, hX.res, hX.Q, List.getElem?_cons_zero, List.getElem?_cons_succ, seval, Et, h1, h2, h3a, h3b, h3c, h3d, h5, h7, h8, h9a, h9b, h9c, h9d]
            repeat (with_reducible refine And.intro (by first | assumption | omega | (simp only [i64in] at *; omega)) ?_)
            by_cases h11 : tail = true
            · rw [if_pos h11] at hsh
              obtain ⟨h12, hsh⟩ := guard_some hsh
              simp only [Erun, Ek, Ev, El, Ea, Eu, hX.res, hX.Q, List.getElem?_cons_zero, List.getElem?_cons_succ, seval, Et, h1, h2, h3a, h3b, h3c, h3d, h5, h7, h8, h9a, h9b, h9c, h9d, h11, h12]
              repeat (with_reducible refine And.intro (by first | assumption | omega | (simp only [i64in] at *; omega)) ?_)
              exact go_lessG hX [] [] [] _ _ (by rfl) (by rfl) (by simp [El2, El3, El4, Ev, El, Eb, Et, h1, h2, h3a, h3b, h3c, h3d, h5, h7, h8, h9a, h9b, h9c, h9d, h11, h12]) (by simp [El2, El3, El4, Ev, El, Eb, Et, h1, h2, h3a, h3b, h3c, h3d, h5, h7, h8, h9a, h9b, h9c, h9d, h11, h12]) (by rfl) (by rfl) (by simp [El2, El3, El4, Ev, El, Eb, Et, h1, h2, h3a, h3b, h3c, h3d, h5, h7, h8, h9a, h9b, h9c, h9d, h11, h12]) (ih1 (i + 1) hsh)
            · rw [if_neg h11] at hsh; replace h11 := neg_b h11
              simp only [Erun, Ek, Ev, El, Ea, Eu, hX.res, hX.Q, List.getElem?_cons_zero, List.getElem?_cons_succ, seval, Et, h1, h2, h3a, h3b, h3c, h3d, h5, h7, h8, h9a, h9b, h9c, h9d, h11]
              repeat (with_reducible refine And.intro (by first | assumption | omega | (simp only [i64in] at *; omega)) ?_)
              obtain rfl := Option.some.inj hsh
              refine post_give [] ?_
              simp [El2, El3, El4, Ev, El, Eb, Et, h1, h2, h3a, h3b, h3c, h3d, h5, h7, h8, h9a, h9b, h9c, h9d, h11]
          · rw [if_neg h8] at hsh; replace h8 := neg_b h8
            simp only [Erun, Ek, Ev, El, Ea, Eu, hX.res, hX.Q, List.getElem?_cons_zero, List.getElem?_cons_succ, seval, Et, h1, h2, h3a, h3b, h3c, h3d, h5, h7, h8]
            repeat (with_reducible refine And.intro (by first | assumption | omega | (simp only [i64in] at *; omega)) ?_)
            obtain rfl := Option.some.inj hsh
            refine post_give [] ?_
            simp [El2, El3, El4, Ev, El, Eb, Et, h1, h2, h3a, h3b, h3c, h3d, h5, h7, h8]
      · rw [if_neg h5] at hsh; replace h5 := neg_b h5
        simp only [Erun, Ek, Ev, El, Ea, Eu, hX.res, hX.Q, List.getElem?_cons_zero, List.getElem?_cons_succ, seval, Et, h1, h2, h3a, h3b, h3c, h3d, h5]
        repeat (with_reducible refine And.intro (by first | assumption | omega | (simp only [i64in] at *; omega)) ?_)
        obtain rfl := Option.some.inj hsh
        refine post_give [] ?_
        simp [El2, El3, El4, Ev, El, Eb, Et, h1, h2, h3a, h3b, h3c, h3d, h5]
set_option maxHeartbeats 8000000 in
theorem c_gate_Gate_Close (N : Nat) (g : gate_Gate) (s : Int) (r : gate_Gate × Int) (hsh : s_gate_Gate_Close N g s = some r) : CRes prog 20 [gate_Gate.av g, .v (.int .i64 s)] .nil (.ret (.tup [gate_Gate.av r.1, .v (.int .i64 r.2)])) .nil := by
  refine is_gate_Gate_Close.run hm 1000 _ rfl fun X hX => ?_
  simp only [List.length_cons, List.length_nil, List.replicate, Nat.reduceAdd, Nat.reduceSub, El, Et]
  rw [s_gate_Gate_Close] at hsh
  simp only [Erun, Ek, Ev, El, Ea, Eu, hX.res, hX.Q, List.getElem?_cons_zero, List.getElem?_cons_succ, seval, Et]
  repeat (with_reducible refine And.intro (by first | assumption | omega | (simp only [i64in] at *; omega)) ?_)
  obtain ⟨vopen, h1, hsh⟩ := Option.bind_eq_some_iff.1 hsh
  have h1k := c_gate_Gate_open N g s vopen h1
  rw [← hX.P] at h1k
  refine .inl (vcall_pure _ (by rw [hX.P]; exact is_gate_Gate_open.enters) h1k (fun H => (by simp [El2, El3, El4, Ev, El, Eb, Et])) ?_)
  refine run_go 1000 _ _ _ _ ?_
  simp only [Erun, Ek, Ev, El, Ea, Eu, hX.res, hX.Q, List.getElem?_cons_zero, List.getElem?_cons_succ, seval, Et]
  repeat (with_reducible refine And.intro (by first | assumption | omega | (simp only [i64in] at *; omega)) ?_)
  by_cases h2 : (vopen.2 != 0) = true
  · rw [if_pos h2] at hsh
    simp only [Erun, Ek, Ev, El, Ea, Eu, hX.res, hX.Q, List.getElem?_cons_zero, List.getElem?_cons_succ, seval, Et, h2]
    repeat (with_reducible refine And.intro (by first | assumption | omega | (simp only [i64in] at *; omega)) ?_)
    obtain rfl := Option.some.inj hsh
    refine post_give [] ?_
    simp [El2, El3, El4, Ev, El, Eb, Et, h2]
  · rw [if_neg h2] at hsh; replace h2 := neg_b h2
    simp only [Erun, Ek, Ev, El, Ea, Eu, hX.res, hX.Q, List.getElem?_cons_zero, List.getElem?_cons_succ, seval, Et, h2]
    repeat (with_reducible refine And.intro (by first | assumption | omega | (simp only [i64in] at *; omega)) ?_)
    obtain ⟨turn, h3, hsh⟩ := Option.bind_eq_some_iff.1 hsh
    have h3k := c_gate_Gate_turn_v071 N g s turn h3
    rw [← hX.P] at h3k
    refine .inl (vcall_pure _ (by rw [hX.P]; exact is_gate_Gate_turn.enters) h3k (fun H => (by simp [El2, El3, El4, Ev, El, Eb, Et, h2])) ?_)
    refine run_go 1000 _ _ _ _ ?_
    simp only [Erun, Ek, Ev, El, Ea, Eu, hX.res, hX.Q, List.getElem?_cons_zero, List.getElem?_cons_succ, seval, Et, h2]
    repeat (with_reducible refine And.intro (by first | assumption | omega | (simp only [i64in] at *; omega)) ?_)
    obtain rfl := Option.some.inj hsh
    refine post_give [] ?_
    simp [El2, El3, El4, Ev, El, Eb, Et, h2]
set_option maxHeartbeats 8000000 in
theorem c_ref03_Clean (N : Nat) (u : Int) (r : Int) (hsh : s_ref03_Clean N u = some r) : CRes prog 78 [.v (.int .u64 u)] .nil (.ret (.v (.int .u64 r))) .nil := by
  refine is_ref03_Clean.run hm 1000 _ rfl fun X hX => ?_
  simp only [List.length_cons, List.length_nil, List.replicate, Nat.reduceAdd, Nat.reduceSub, El, Et]
  rw [s_ref03_Clean] at hsh
  simp only [Erun, Ek, Ev, El, Ea, Eu, hX.res, hX.Q, List.getElem?_cons_zero, List.getElem?_cons_succ, seval, Et]
  repeat (with_reducible refine And.intro (by first | assumption | omega | (simp only [i64in] at *; omega)) ?_)
  obtain ⟨kind, h1, hsh⟩ := Option.bind_eq_some_iff.1 hsh
  have h1k := c_ref03_Kind N u kind h1
  rw [← hX.P] at h1k
  refine .inl (vcall_pure _ (by rw [hX.P]; exact is_ref03_Kind.enters) h1k (fun H => (by simp [El2, El3, El4, Ev, El, Eb, Et])) ?_)
  refine run_go 1000 _ _ _ _ ?_
  simp only [Erun, Ek, Ev, El, Ea, Eu, hX.res, hX.Q, List.getElem?_cons_zero, List.getElem?_cons_succ, seval, Et]
  repeat (with_reducible refine And.intro (by first | assumption | omega | (simp only [i64in] at *; omega)) ?_)
  by_cases h2 : (kind == 5) = true
  · rw [if_pos h2] at hsh
    simp only [Erun, Ek, Ev, El, Ea, Eu, hX.res, hX.Q, List.getElem?_cons_zero, List.getElem?_cons_succ, seval, Et, h2]
    repeat (with_reducible refine And.intro (by first | assumption | omega | (simp only [i64in] at *; omega)) ?_)
    obtain rfl := Option.some.inj hsh
    refine post_give [] ?_
    simp [El2, El3, El4, Ev, El, Eb, Et, h2]
  · rw [if_neg h2] at hsh; replace h2 := neg_b h2
    simp only [Erun, Ek, Ev, El, Ea, Eu, hX.res, hX.Q, List.getElem?_cons_zero, List.getElem?_cons_succ, seval, Et, h2]
    repeat (with_reducible refine And.intro (by first | assumption | omega | (simp only [i64in] at *; omega)) ?_)
    obtain rfl := Option.some.inj hsh
    refine post_give [] ?_
    simp [El2, El3, El4, Ev, El, Eb, Et, h2]
end Go.Proofs.YtfblfapkpieckaaDoor.W
namespace Go.Proofs.YtfblfapkpieckaaDoor.W
open Go
open Go.Proofs.Tryd
set_option linter.unusedSimpArgs false
set_option linter.unusedVariables false
set_option maxHeartbeats 8000000 in
theorem c_slices_EqualFunc_schema_Type_v029 (N : Nat) (s1 : List schema_Type) (s2 : List schema_Type) (r : Bool) (hsh : s_slices_EqualFunc_schema_Type_v029 N s1 s2 = some r) : CRes prog 55 [.sl 2 (List.map schema_Type.av s1), .sl 2 (List.map schema_Type.av s2), .fn (.func 56) [] []] .nil (.ret (.v (.bool r))) .nil := by
  refine is_slices_EqualFunc_schema_Type.run hm 1000 _ rfl fun X hX => ?_
  simp only [List.length_cons, List.length_nil, List.replicate, Nat.reduceAdd, Nat.reduceSub, El, Et]
  rw [s_slices_EqualFunc_schema_Type_v029] at hsh
  simp only [Erun, Ek, Ev, El, Ea, Eu, hX.res, hX.Q, List.getElem?_cons_zero, List.getElem?_cons_succ, seval, Et]
  repeat (with_reducible refine And.intro (by first | assumption | omega | (simp only [i64in] at *; omega)) ?_)
  by_cases h1 : ((List.length s1 : Int) != (List.length s2 : Int)) = true
  · rw [if_pos h1] at hsh
    simp only [Erun, Ek, Ev, El, Ea, Eu, hX.res, hX.Q, List.getElem?_cons_zero, List.getElem?_cons_succ, seval, Et, h1]
    repeat (with_reducible refine And.intro (by first | assumption | omega | (simp only [i64in] at *; omega)) ?_)
    obtain rfl := Option.some.inj hsh
    refine post_give [] ?_
    simp [El2, El3, El4, Ev, El, Eb, Et, h1]
  · rw [if_neg h1] at hsh; replace h1 := neg_b h1
    simp only [Erun, Ek, Ev, El, Ea, Eu, hX.res, hX.Q, List.getElem?_cons_zero, List.getElem?_cons_succ, seval, Et, h1]
    repeat (with_reducible refine And.intro (by first | assumption | omega | (simp only [i64in] at *; omega)) ?_)
    refine go_lessG hX [] [] [] _ _ (by rfl) (by rfl) (by simp [El2, El3, El4, Ev, El, Eb, Et, h1]) (by simp [El2, El3, El4, Ev, El, Eb, Et, h1]) (by rfl) (by rfl) (by simp [El2, El3, El4, Ev, El, Eb, Et, h1]) (go_loop1 (fun (x : Int) => ([.any, .sl 2 (List.map schema_Type.av s2), .fn (.func 56) [] [], .any, .any, .any, .any, .any, .any, .any, .any, .any, .any, .any, .any, .sl 2 (List.map schema_Type.av s1), .v (.int .i64 (List.length s1 : Int)), .v (.int .i64 x)] ++ List.replicate 14 .any)) (fun (x : Int) => ⟨[], []⟩) 1000 (fun next1 ih1 x hsh => ?_) N 0 hsh)
    simp only [List.replicate, El] at ih1 ⊢
    rw [s_slices_EqualFunc_schema_Type_v029_1] at hsh
    simp only [Erun, Ek, Ev, El, Ea, Eu, hX.res, hX.Q, List.getElem?_cons_zero, List.getElem?_cons_succ, seval, Et, h1]
    repeat (with_reducible refine And.intro (by first | assumption | omega | (simp only [i64in] at *; omega)) ?_)
    by_cases h2 : (decide (x < (List.length s1 : Int))) = true
    · rw [if_pos h2] at hsh
      obtain ⟨e, h3x, hsh⟩ := Option.bind_eq_some_iff.1 hsh
      obtain ⟨h3a, h3b, h3c, h3d⟩ := ix_some h3x
      obtain ⟨e2, h4x, hsh⟩ := Option.bind_eq_some_iff.1 hsh
      obtain ⟨h4a, h4b, h4c, h4d⟩ := ix_some h4x
      simp only [Erun, Ek, Ev, El, Ea, Eu, hX.res, hX.Q, List.getElem?_cons_zero, List.getElem?_cons_succ, seval, Et, h1, h2, h3a, h3b, h3c, h3d, h4a, h4b, h4c, h4d]
      repeat (with_reducible refine And.intro (by first | assumption | omega | (simp only [i64in] at *; omega)) ?_)
      obtain ⟨l, h5, hsh⟩ := Option.bind_eq_some_iff.1 hsh
      have h5k := c_schema_Same_L1 N e e2 l h5
      rw [← hX.P] at h5k
      refine (vcall_pure _ (by rw [hX.P]; exact is_schema_Same_L1.enters) h5k (fun H => (by simp [El2, El3, El4, Ev, El, Eb, Et, h1, h2, h3a, h3b, h3c, h3d, h4a, h4b, h4c, h4d])) ?_)
      refine run_go 1000 _ _ _ _ ?_
      simp only [Erun, Ek, Ev, El, Ea, Eu, hX.res, hX.Q, List.getElem?_cons_zero, List.getElem?_cons_succ, seval, Et, h1, h2, h3a, h3b, h3c, h3d, h4a, h4b, h4c, h4d]
      repeat (with_reducible refine And.intro (by first | assumption | omega | (simp only [i64in] at *; omega)) ?_)
      by_cases h6 : l = true
      · rw [if_pos h6] at hsh
        obtain ⟨h7, hsh⟩ := guard_some hsh
        simp only [Erun, Ek, Ev, El, Ea, Eu, hX.res, hX.Q, List.getElem?_cons_zero, List.getElem?_cons_succ, seval, Et, h1, h2, h3a, h3b, h3c, h3d, h4a, h4b, h4c, h4d, h6, h7]
        repeat (with_reducible refine And.intro (by first | assumption | omega | (simp only [i64in] at *; omega)) ?_)
        exact go_lessG hX [] [] [] _ _ (by rfl) (by rfl) (by simp [El2, El3, El4, Ev, El, Eb, Et, h1, h2, h3a, h3b, h3c, h3d, h4a, h4b, h4c, h4d, h6, h7]) (by simp [El2, El3, El4, Ev, El, Eb, Et, h1, h2, h3a, h3b, h3c, h3d, h4a, h4b, h4c, h4d, h6, h7]) (by rfl) (by rfl) (by simp [El2, El3, El4, Ev, El, Eb, Et, h1, h2, h3a, h3b, h3c, h3d, h4a, h4b, h4c, h4d, h6, h7]) (ih1 (x + 1) hsh)
      · rw [if_neg h6] at hsh; replace h6 := neg_b h6
        simp only [Erun, Ek, Ev, El, Ea, Eu, hX.res, hX.Q, List.getElem?_cons_zero, List.getElem?_cons_succ, seval, Et, h1, h2, h3a, h3b, h3c, h3d, h4a, h4b, h4c, h4d, h6]
        repeat (with_reducible refine And.intro (by first | assumption | omega | (simp only [i64in] at *; omega)) ?_)
        obtain rfl := Option.some.inj hsh
        refine post_give [] ?_
        simp [El2, El3, El4, Ev, El, Eb, Et, h1, h2, h3a, h3b, h3c, h3d, h4a, h4b, h4c, h4d, h6]
    · rw [if_neg h2] at hsh; replace h2 := neg_b h2
      simp only [Erun, Ek, Ev, El, Ea, Eu, hX.res, hX.Q, List.getElem?_cons_zero, List.getElem?_cons_succ, seval, Et, h1, h2]
      repeat (with_reducible refine And.intro (by first | assumption | omega | (simp only [i64in] at *; omega)) ?_)
      obtain rfl := Option.some.inj hsh
      refine post_give [] ?_
      simp [El2, El3, El4, Ev, El, Eb, Et, h1, h2]
set_option maxHeartbeats 8000000 in
theorem c_gate_Gate_Advance (N : Nat) (g : gate_Gate) (s : Int) (time : Int) (r : gate_Gate × Int) (hsh : s_gate_Gate_Advance N g s time = some r) : CRes prog 18 [gate_Gate.av g, .v (.int .i64 s), .v (.int .i64 time)] .nil (.ret (.tup [gate_Gate.av r.1, .v (.int .i64 r.2)])) .nil := by
  refine is_gate_Gate_Advance.run hm 1000 _ rfl fun X hX => ?_
  simp only [List.length_cons, List.length_nil, List.replicate, Nat.reduceAdd, Nat.reduceSub, El, Et]
  rw [s_gate_Gate_Advance] at hsh
  simp only [Erun, Ek, Ev, El, Ea, Eu, hX.res, hX.Q, List.getElem?_cons_zero, List.getElem?_cons_succ, seval, Et]
  repeat (with_reducible refine And.intro (by first | assumption | omega | (simp only [i64in] at *; omega)) ?_)
  obtain ⟨vopen, h1, hsh⟩ := Option.bind_eq_some_iff.1 hsh
  have h1k := c_gate_Gate_open N g s vopen h1
  rw [← hX.P] at h1k
  refine .inl (vcall_pure _ (by rw [hX.P]; exact is_gate_Gate_open.enters) h1k (fun H => (by simp [El2, El3, El4, Ev, El, Eb, Et])) ?_)
  refine run_go 1000 _ _ _ _ ?_
  simp only [Erun, Ek, Ev, El, Ea, Eu, hX.res, hX.Q, List.getElem?_cons_zero, List.getElem?_cons_succ, seval, Et]
  repeat (with_reducible refine And.intro (by first | assumption | omega | (simp only [i64in] at *; omega)) ?_)
  by_cases h2 : (vopen.2 != 0) = true
  · rw [if_pos h2] at hsh
    simp only [Erun, Ek, Ev, El, Ea, Eu, hX.res, hX.Q, List.getElem?_cons_zero, List.getElem?_cons_succ, seval, Et, h2]
    repeat (with_reducible refine And.intro (by first | assumption | omega | (simp only [i64in] at *; omega)) ?_)
    obtain rfl := Option.some.inj hsh
    refine post_give [] ?_
    simp [El2, El3, El4, Ev, El, Eb, Et, h2]
  · rw [if_neg h2] at hsh; replace h2 := neg_b h2
    simp only [Erun, Ek, Ev, El, Ea, Eu, hX.res, hX.Q, List.getElem?_cons_zero, List.getElem?_cons_succ, seval, Et, h2]
    repeat (with_reducible refine And.intro (by first | assumption | omega | (simp only [i64in] at *; omega)) ?_)
    by_cases h3 : (decide (time < vopen.1.Front)) = true
    · rw [if_pos h3] at hsh
      simp only [Erun, Ek, Ev, El, Ea, Eu, hX.res, hX.Q, List.getElem?_cons_zero, List.getElem?_cons_succ, seval, Et, h2, h3]
      repeat (with_reducible refine And.intro (by first | assumption | omega | (simp only [i64in] at *; omega)) ?_)
      obtain rfl := Option.some.inj hsh
      refine post_give [] ?_
      simp [El2, El3, El4, Ev, El, Eb, Et, h2, h3]
    · rw [if_neg h3] at hsh; replace h3 := neg_b h3
      simp only [Erun, Ek, Ev, El, Ea, Eu, hX.res, hX.Q, List.getElem?_cons_zero, List.getElem?_cons_succ, seval, Et, h2, h3]
      repeat (with_reducible refine And.intro (by first | assumption | omega | (simp only [i64in] at *; omega)) ?_)
      by_cases h4 : (decide (time > 1099511627776)) = true
      · rw [if_pos h4] at hsh
        simp only [Erun, Ek, Ev, El, Ea, Eu, hX.res, hX.Q, List.getElem?_cons_zero, List.getElem?_cons_succ, seval, Et, h2, h3, h4]
        repeat (with_reducible refine And.intro (by first | assumption | omega | (simp only [i64in] at *; omega)) ?_)
        obtain rfl := Option.some.inj hsh
        refine post_give [] ?_
        simp [El2, El3, El4, Ev, El, Eb, Et, h2, h3, h4]
      · rw [if_neg h4] at hsh; replace h4 := neg_b h4
        simp only [Erun, Ek, Ev, El, Ea, Eu, hX.res, hX.Q, List.getElem?_cons_zero, List.getElem?_cons_succ, seval, Et, h2, h3, h4]
        repeat (with_reducible refine And.intro (by first | assumption | omega | (simp only [i64in] at *; omega)) ?_)
        obtain ⟨turn, h5, hsh⟩ := Option.bind_eq_some_iff.1 hsh
        have h5k := c_gate_Gate_turn_v637 N g s time turn h5
        rw [← hX.P] at h5k
        refine .inl (vcall_lift [] [1] [] _ (by rw [hX.P]; exact is_gate_Gate_turn.enters) h5k (by simp [El2, El3, El4, Ev, El, Eb, Et, h2, h3, h4]) (by simp [El2, El3, El4, Ev, El, Eb, Et, h2, h3, h4]) (by rfl) (by rfl) (by rfl) (by simp [El2, El3, El4, Ev, El, Eb, Et, h2, h3, h4]) ?_)
        simp only [Eu, El, Ev, Ea, Nat.reduceAdd, AH.nil]
        refine run_go 1000 _ _ _ _ ?_
        simp only [Erun, Ek, Ev, El, Ea, Eu, hX.res, hX.Q, List.getElem?_cons_zero, List.getElem?_cons_succ, seval, Et, h2, h3, h4]
        repeat (with_reducible refine And.intro (by first | assumption | omega | (simp only [i64in] at *; omega)) ?_)
        obtain rfl := Option.some.inj hsh
        refine post_give [] ?_
        simp [El2, El3, El4, Ev, El, Eb, Et, h2, h3, h4]
set_option maxHeartbeats 8000000 in
theorem c_stringslite_Cut_v860 (N : Nat) (s : List UInt8) (r : List UInt8 × List UInt8 × Bool) (hsh : s_stringslite_Cut_v860 N s = some r) : CRes prog 58 [.v (.string (bs s)), .v (.string (bs [10]))] .nil (.ret (.tup [.v (.string (bs r.1)), .v (.string (bs r.2.1)), .v (.bool r.2.2)])) .nil := by
  refine is_stringslite_Cut.run hm 1000 _ rfl fun X hX => ?_
  simp only [List.length_cons, List.length_nil, List.replicate, Nat.reduceAdd, Nat.reduceSub, El, Et]
  rw [s_stringslite_Cut_v860] at hsh
  simp only [Erun, Ek, Ev, El, Ea, Eu, hX.res, hX.Q, List.getElem?_cons_zero, List.getElem?_cons_succ, seval, Et]
  repeat (with_reducible refine And.intro (by first | assumption | omega | (simp only [i64in] at *; omega)) ?_)
  obtain ⟨inde, h1, hsh⟩ := Option.bind_eq_some_iff.1 hsh
  have h1k := c_stringslite_Index_v860 N s inde h1
  rw [← hX.P] at h1k
  refine .inl (vcall_pure _ (by rw [hX.P]; exact is_stringslite_Index.enters) h1k (fun H => (by simp [El2, El3, El4, Ev, El, Eb, Et])) ?_)
  refine run_go 1000 _ _ _ _ ?_
  simp only [Erun, Ek, Ev, El, Ea, Eu, hX.res, hX.Q, List.getElem?_cons_zero, List.getElem?_cons_succ, seval, Et]
  repeat (with_reducible refine And.intro (by first | assumption | omega | (simp only [i64in] at *; omega)) ?_)
  by_cases h2 : (decide (inde ≥ 0)) = true
  · rw [if_pos h2] at hsh
    obtain ⟨h3, hsh⟩ := guard_some hsh
    obtain ⟨h4, hsh⟩ := guard_some hsh
    obtain ⟨h5, hsh⟩ := guard_some hsh
    simp only [Erun, Ek, Ev, El, Ea, Eu, hX.res, hX.Q, List.getElem?_cons_zero, List.getElem?_cons_succ, seval, Et, h2, h3, h4, h5]
    repeat (with_reducible refine And.intro (by first | assumption | omega | (simp only [i64in] at *; omega)) ?_)
    obtain rfl := Option.some.inj hsh
    refine post_give [] ?_
    simp [El2, El3, El4, Ev, El, Eb, Et, h2, h3, h4, h5]
  · rw [if_neg h2] at hsh; replace h2 := neg_b h2
    simp only [Erun, Ek, Ev, El, Ea, Eu, hX.res, hX.Q, List.getElem?_cons_zero, List.getElem?_cons_succ, seval, Et, h2]
    repeat (with_reducible refine And.intro (by first | assumption | omega | (simp only [i64in] at *; omega)) ?_)
    obtain rfl := Option.some.inj hsh
    refine post_give [] ?_
    simp [El2, El3, El4, Ev, El, Eb, Et, h2]
set_option maxHeartbeats 8000000 in
theorem c_strings_Index_v724 (N : Nat) (s : List UInt8) (r : Int) (hsh : s_strings_Index_v724 N s = some r) : CRes prog 71 [.v (.string (bs s)), .v (.string (bs [32]))] .nil (.ret (.v (.int .i64 r))) .nil := by
  refine is_strings_Index.run hm 1000 _ rfl fun X hX => ?_
  simp only [List.length_cons, List.length_nil, List.replicate, Nat.reduceAdd, Nat.reduceSub, El, Et]
  rw [s_strings_Index_v724] at hsh
  simp only [Erun, Ek, Ev, El, Ea, Eu, hX.res, hX.Q, List.getElem?_cons_zero, List.getElem?_cons_succ, seval, Et]
  repeat (with_reducible refine And.intro (by first | assumption | omega | (simp only [i64in] at *; omega)) ?_)
  obtain ⟨inde, h1, hsh⟩ := Option.bind_eq_some_iff.1 hsh
  have h1k := c_stringslite_Index_v724 N s inde h1
  rw [← hX.P] at h1k
  refine .inl (vcall_pure _ (by rw [hX.P]; exact is_stringslite_Index.enters) h1k (fun H => (by simp [El2, El3, El4, Ev, El, Eb, Et])) ?_)
  refine run_go 1000 _ _ _ _ ?_
  simp only [Erun, Ek, Ev, El, Ea, Eu, hX.res, hX.Q, List.getElem?_cons_zero, List.getElem?_cons_succ, seval, Et]
  repeat (with_reducible refine And.intro (by first | assumption | omega | (simp only [i64in] at *; omega)) ?_)
  obtain rfl := Option.some.inj hsh
  refine post_give [] ?_
  simp [El2, El3, El4, Ev, El, Eb, Et]
end Go.Proofs.YtfblfapkpieckaaDoor.W
namespace Go.Proofs.YtfblfapkpieckaaDoor.W
open Go
open Go.Proofs.Tryd
set_option linter.unusedSimpArgs false
set_option linter.unusedVariables false
set_option maxHeartbeats 8000000 in
theorem c_ref04_Check (N : Nat) (v : value_Value) (r : Int) (hsh : s_ref04_Check N v = some r) : CRes prog 67 [value_Value.av v] .nil (.ret (.v (.int .i64 r))) .nil := by
  refine is_ref04_Check.run hm 1000 _ rfl fun X hX => ?_
  simp only [List.length_cons, List.length_nil, List.replicate, Nat.reduceAdd, Nat.reduceSub, El, Et]
  rw [s_ref04_Check] at hsh
  simp only [Erun, Ek, Ev, El, Ea, Eu, hX.res, hX.Q, List.getElem?_cons_zero, List.getElem?_cons_succ, seval, Et]
  repeat (with_reducible refine And.intro (by first | assumption | omega | (simp only [i64in] at *; omega)) ?_)
  by_cases h1 : (decide (v.Kind < 1)) = true
  · rw [if_pos h1] at hsh
    simp only [Erun, Ek, Ev, El, Ea, Eu, hX.res, hX.Q, List.getElem?_cons_zero, List.getElem?_cons_succ, seval, Et, h1]
    repeat (with_reducible refine And.intro (by first | assumption | omega | (simp only [i64in] at *; omega)) ?_)
    obtain rfl := Option.some.inj hsh
    refine post_give [] ?_
    simp [El2, El3, El4, Ev, El, Eb, Et, h1]
  · rw [if_neg h1] at hsh; replace h1 := neg_b h1
    simp only [Erun, Ek, Ev, El, Ea, Eu, hX.res, hX.Q, List.getElem?_cons_zero, List.getElem?_cons_succ, seval, Et, h1]
    repeat (with_reducible refine And.intro (by first | assumption | omega | (simp only [i64in] at *; omega)) ?_)
    by_cases h2 : (decide (v.Kind > 4)) = true
    · rw [if_pos h2] at hsh
      simp only [Erun, Ek, Ev, El, Ea, Eu, hX.res, hX.Q, List.getElem?_cons_zero, List.getElem?_cons_succ, seval, Et, h1, h2]
      repeat (with_reducible refine And.intro (by first | assumption | omega | (simp only [i64in] at *; omega)) ?_)
      obtain rfl := Option.some.inj hsh
      refine post_give [] ?_
      simp [El2, El3, El4, Ev, El, Eb, Et, h1, h2]
    · rw [if_neg h2] at hsh; replace h2 := neg_b h2
      simp only [Erun, Ek, Ev, El, Ea, Eu, hX.res, hX.Q, List.getElem?_cons_zero, List.getElem?_cons_succ, seval, Et, h1, h2]
      repeat (with_reducible refine And.intro (by first | assumption | omega | (simp only [i64in] at *; omega)) ?_)
      by_cases h3 : (v.Kind == 1) = true
      · rw [if_pos h3] at hsh
        simp only [Erun, Ek, Ev, El, Ea, Eu, hX.res, hX.Q, List.getElem?_cons_zero, List.getElem?_cons_succ, seval, Et, h1, h2, h3]
        repeat (with_reducible refine And.intro (by first | assumption | omega | (simp only [i64in] at *; omega)) ?_)
        by_cases h4 : (decide (v.N < (-4611686018427387904))) = true
        · rw [if_pos h4] at hsh
          simp only [Erun, Ek, Ev, El, Ea, Eu, hX.res, hX.Q, List.getElem?_cons_zero, List.getElem?_cons_succ, seval, Et, h1, h2, h3, h4]
          repeat (with_reducible refine And.intro (by first | assumption | omega | (simp only [i64in] at *; omega)) ?_)
          obtain rfl := Option.some.inj hsh
          refine post_give [] ?_
          simp [El2, El3, El4, Ev, El, Eb, Et, h1, h2, h3, h4]
        · rw [if_neg h4] at hsh; replace h4 := neg_b h4
          simp only [Erun, Ek, Ev, El, Ea, Eu, hX.res, hX.Q, List.getElem?_cons_zero, List.getElem?_cons_succ, seval, Et, h1, h2, h3, h4]
          repeat (with_reducible refine And.intro (by first | assumption | omega | (simp only [i64in] at *; omega)) ?_)
          by_cases h5 : (decide (v.N > 4611686018427387904)) = true
          · rw [if_pos h5] at hsh
            simp only [Erun, Ek, Ev, El, Ea, Eu, hX.res, hX.Q, List.getElem?_cons_zero, List.getElem?_cons_succ, seval, Et, h1, h2, h3, h4, h5]
            repeat (with_reducible refine And.intro (by first | assumption | omega | (simp only [i64in] at *; omega)) ?_)
            obtain rfl := Option.some.inj hsh
            refine post_give [] ?_
            simp [El2, El3, El4, Ev, El, Eb, Et, h1, h2, h3, h4, h5]
          · rw [if_neg h5] at hsh; replace h5 := neg_b h5
            have h6 : (v.Kind == 2) = false := beq_eq_false_iff_ne.2 (by have := of_decide_eq_false h1; have := of_decide_eq_false h2; have := eq_of_beq h3; omega)
            have h7 : (v.Kind == 3) = false := beq_eq_false_iff_ne.2 (by have := of_decide_eq_false h1; have := of_decide_eq_false h2; have := eq_of_beq h3; omega)
            have h8 : (v.Kind == 4) = false := beq_eq_false_iff_ne.2 (by have := of_decide_eq_false h1; have := of_decide_eq_false h2; have := eq_of_beq h3; omega)
            have h9 : (decide (v.Kind > 2)) = false := decide_eq_false (by have := of_decide_eq_false h1; have := of_decide_eq_false h2; have := eq_of_beq h3; omega)
            have h10 : (v.Kind != 3) = true := bne_iff_ne.2 (by have := of_decide_eq_false h1; have := of_decide_eq_false h2; have := eq_of_beq h3; omega)
            simp only [Erun, Ek, Ev, El, Ea, Eu, hX.res, hX.Q, List.getElem?_cons_zero, List.getElem?_cons_succ, seval, Et, h1, h2, h3, h4, h5, h6, h7, h8, h9, h10]
            repeat (with_reducible refine And.intro (by first | assumption | omega | (simp only [i64in] at *; omega)) ?_)
            by_cases h11 : (v.Bits != 0) = true
            · rw [if_pos h11] at hsh
              simp only [Erun, Ek, Ev, El, Ea, Eu, hX.res, hX.Q, List.getElem?_cons_zero, List.getElem?_cons_succ, seval, Et, h1, h2, h3, h4, h5, h6, h7, h8, h9, h10, h11]
              repeat (with_reducible refine And.intro (by first | assumption | omega | (simp only [i64in] at *; omega)) ?_)
              obtain rfl := Option.some.inj hsh
              refine post_give [] ?_
              simp [El2, El3, El4, Ev, El, Eb, Et, h1, h2, h3, h4, h5, h6, h7, h8, h9, h10, h11]
            · rw [if_neg h11] at hsh; replace h11 := neg_b h11
              have h12 : (v.Kind != 4) = true := bne_iff_ne.2 (by have := of_decide_eq_false h1; have := of_decide_eq_false h2; have := eq_of_beq h3; omega)
              simp only [Erun, Ek, Ev, El, Ea, Eu, hX.res, hX.Q, List.getElem?_cons_zero, List.getElem?_cons_succ, seval, Et, h1, h2, h3, h4, h5, h6, h7, h8, h9, h10, h11, h12]
              repeat (with_reducible refine And.intro (by first | assumption | omega | (simp only [i64in] at *; omega)) ?_)
              by_cases h13 : (v.Text == []) = true
              · rw [if_pos h13] at hsh
                simp only [Erun, Ek, Ev, El, Ea, Eu, hX.res, hX.Q, List.getElem?_cons_zero, List.getElem?_cons_succ, seval, Et, h1, h2, h3, h4, h5, h6, h7, h8, h9, h10, h11, h12, h13]
                repeat (with_reducible refine And.intro (by first | assumption | omega | (simp only [i64in] at *; omega)) ?_)
                obtain rfl := Option.some.inj hsh
                refine post_give [] ?_
                simp [El2, El3, El4, Ev, El, Eb, Et, h1, h2, h3, h4, h5, h6, h7, h8, h9, h10, h11, h12, h13]
              · rw [if_neg h13] at hsh; replace h13 := neg_b h13
                simp only [Erun, Ek, Ev, El, Ea, Eu, hX.res, hX.Q, List.getElem?_cons_zero, List.getElem?_cons_succ, seval, Et, h1, h2, h3, h4, h5, h6, h7, h8, h9, h10, h11, h12, h13]
                repeat (with_reducible refine And.intro (by first | assumption | omega | (simp only [i64in] at *; omega)) ?_)
                obtain rfl := Option.some.inj hsh
                refine post_give [] ?_
                simp [El2, El3, El4, Ev, El, Eb, Et, h1, h2, h3, h4, h5, h6, h7, h8, h9, h10, h11, h12, h13]
      · rw [if_neg h3] at hsh; replace h3 := neg_b h3
        simp only [Erun, Ek, Ev, El, Ea, Eu, hX.res, hX.Q, List.getElem?_cons_zero, List.getElem?_cons_succ, seval, Et, h1, h2, h3]
        repeat (with_reducible refine And.intro (by first | assumption | omega | (simp only [i64in] at *; omega)) ?_)
        by_cases h14 : (v.Kind == 2) = true
        · rw [if_pos h14] at hsh
          simp only [Erun, Ek, Ev, El, Ea, Eu, hX.res, hX.Q, List.getElem?_cons_zero, List.getElem?_cons_succ, seval, Et, h1, h2, h3, h14]
          repeat (with_reducible refine And.intro (by first | assumption | omega | (simp only [i64in] at *; omega)) ?_)
          by_cases h15 : (decide (v.N < 0)) = true
          · rw [if_pos h15] at hsh
            simp only [Erun, Ek, Ev, El, Ea, Eu, hX.res, hX.Q, List.getElem?_cons_zero, List.getElem?_cons_succ, seval, Et, h1, h2, h3, h14, h15]
            repeat (with_reducible refine And.intro (by first | assumption | omega | (simp only [i64in] at *; omega)) ?_)
            obtain rfl := Option.some.inj hsh
            refine post_give [] ?_
            simp [El2, El3, El4, Ev, El, Eb, Et, h1, h2, h3, h14, h15]
          · rw [if_neg h15] at hsh; replace h15 := neg_b h15
            simp only [Erun, Ek, Ev, El, Ea, Eu, hX.res, hX.Q, List.getElem?_cons_zero, List.getElem?_cons_succ, seval, Et, h1, h2, h3, h14, h15]
            repeat (with_reducible refine And.intro (by first | assumption | omega | (simp only [i64in] at *; omega)) ?_)
            by_cases h16 : (decide (v.N > 1)) = true
            · rw [if_pos h16] at hsh
              simp only [Erun, Ek, Ev, El, Ea, Eu, hX.res, hX.Q, List.getElem?_cons_zero, List.getElem?_cons_succ, seval, Et, h1, h2, h3, h14, h15, h16]
              repeat (with_reducible refine And.intro (by first | assumption | omega | (simp only [i64in] at *; omega)) ?_)
              obtain rfl := Option.some.inj hsh
              refine post_give [] ?_
              simp [El2, El3, El4, Ev, El, Eb, Et, h1, h2, h3, h14, h15, h16]
            · rw [if_neg h16] at hsh; replace h16 := neg_b h16
              have h17 : (v.Kind == 3) = false := beq_eq_false_iff_ne.2 (by have := of_decide_eq_false h1; have := of_decide_eq_false h2; have := ne_of_beq_false h3; have := eq_of_beq h14; omega)
              have h18 : (v.Kind == 4) = false := beq_eq_false_iff_ne.2 (by have := of_decide_eq_false h1; have := of_decide_eq_false h2; have := ne_of_beq_false h3; have := eq_of_beq h14; omega)
              have h19 : (decide (v.Kind > 2)) = false := decide_eq_false (by have := of_decide_eq_false h1; have := of_decide_eq_false h2; have := ne_of_beq_false h3; have := eq_of_beq h14; omega)
              have h20 : (v.Kind != 3) = true := bne_iff_ne.2 (by have := of_decide_eq_false h1; have := of_decide_eq_false h2; have := ne_of_beq_false h3; have := eq_of_beq h14; omega)
              simp only [Erun, Ek, Ev, El, Ea, Eu, hX.res, hX.Q, List.getElem?_cons_zero, List.getElem?_cons_succ, seval, Et, h1, h2, h3, h14, h15, h16, h17, h18, h19, h20]
              repeat (with_reducible refine And.intro (by first | assumption | omega | (simp only [i64in] at *; omega)) ?_)
              by_cases h21 : (v.Bits != 0) = true
              · rw [if_pos h21] at hsh
                simp only [Erun, Ek, Ev, El, Ea, Eu, hX.res, hX.Q, List.getElem?_cons_zero, List.getElem?_cons_succ, seval, Et, h1, h2, h3, h14, h15, h16, h17, h18, h19, h20, h21]
                repeat (with_reducible refine And.intro (by first | assumption | omega | (simp only [i64in] at *; omega)) ?_)
                obtain rfl := Option.some.inj hsh
                refine post_give [] ?_
                simp [El2, El3, El4, Ev, El, Eb, Et, h1, h2, h3, h14, h15, h16, h17, h18, h19, h20, h21]
              · rw [if_neg h21] at hsh; replace h21 := neg_b h21
                have h22 : (v.Kind != 4) = true := bne_iff_ne.2 (by have := of_decide_eq_false h1; have := of_decide_eq_false h2; have := ne_of_beq_false h3; have := eq_of_beq h14; omega)
                simp only [Erun, Ek, Ev, El, Ea, Eu, hX.res, hX.Q, List.getElem?_cons_zero, List.getElem?_cons_succ, seval, Et, h1, h2, h3, h14, h15, h16, h17, h18, h19, h20, h21, h22]
                repeat (with_reducible refine And.intro (by first | assumption | omega | (simp only [i64in] at *; omega)) ?_)
                by_cases h23 : (v.Text == []) = true
                · rw [if_pos h23] at hsh
                  simp only [Erun, Ek, Ev, El, Ea, Eu, hX.res, hX.Q, List.getElem?_cons_zero, List.getElem?_cons_succ, seval, Et, h1, h2, h3, h14, h15, h16, h17, h18, h19, h20, h21, h22, h23]
                  repeat (with_reducible refine And.intro (by first | assumption | omega | (simp only [i64in] at *; omega)) ?_)
                  obtain rfl := Option.some.inj hsh
                  refine post_give [] ?_
                  simp [El2, El3, El4, Ev, El, Eb, Et, h1, h2, h3, h14, h15, h16, h17, h18, h19, h20, h21, h22, h23]
                · rw [if_neg h23] at hsh; replace h23 := neg_b h23
                  simp only [Erun, Ek, Ev, El, Ea, Eu, hX.res, hX.Q, List.getElem?_cons_zero, List.getElem?_cons_succ, seval, Et, h1, h2, h3, h14, h15, h16, h17, h18, h19, h20, h21, h22, h23]
                  repeat (with_reducible refine And.intro (by first | assumption | omega | (simp only [i64in] at *; omega)) ?_)
                  obtain rfl := Option.some.inj hsh
                  refine post_give [] ?_
                  simp [El2, El3, El4, Ev, El, Eb, Et, h1, h2, h3, h14, h15, h16, h17, h18, h19, h20, h21, h22, h23]
        · rw [if_neg h14] at hsh; replace h14 := neg_b h14
          simp only [Erun, Ek, Ev, El, Ea, Eu, hX.res, hX.Q, List.getElem?_cons_zero, List.getElem?_cons_succ, seval, Et, h1, h2, h3, h14]
          repeat (with_reducible refine And.intro (by first | assumption | omega | (simp only [i64in] at *; omega)) ?_)
          by_cases h24 : (v.Kind == 3) = true
          · rw [if_pos h24] at hsh
            simp only [Erun, Ek, Ev, El, Ea, Eu, hX.res, hX.Q, List.getElem?_cons_zero, List.getElem?_cons_succ, seval, Et, h1, h2, h3, h14, h24]
            repeat (with_reducible refine And.intro (by first | assumption | omega | (simp only [i64in] at *; omega)) ?_)
            obtain ⟨clea, h25, hsh⟩ := Option.bind_eq_some_iff.1 hsh
            have h25k := c_ref03_Clean N v.Bits clea h25
            rw [← hX.P] at h25k
            refine .inl (vcall_pure _ (by rw [hX.P]; exact is_ref03_Clean.enters) h25k (fun H => (by simp [El2, El3, El4, Ev, El, Eb, Et, h1, h2, h3, h14, h24])) ?_)
            refine run_go 1000 _ _ _ _ ?_
            simp only [Erun, Ek, Ev, El, Ea, Eu, hX.res, hX.Q, List.getElem?_cons_zero, List.getElem?_cons_succ, seval, Et, h1, h2, h3, h14, h24]
            repeat (with_reducible refine And.intro (by first | assumption | omega | (simp only [i64in] at *; omega)) ?_)
            by_cases h26 : (clea != v.Bits) = true
            · rw [if_pos h26] at hsh
              simp only [Erun, Ek, Ev, El, Ea, Eu, hX.res, hX.Q, List.getElem?_cons_zero, List.getElem?_cons_succ, seval, Et, h1, h2, h3, h14, h24, h26]
              repeat (with_reducible refine And.intro (by first | assumption | omega | (simp only [i64in] at *; omega)) ?_)
              obtain rfl := Option.some.inj hsh
              refine post_give [] ?_
              simp [El2, El3, El4, Ev, El, Eb, Et, h1, h2, h3, h14, h24, h26]
            · rw [if_neg h26] at hsh; replace h26 := neg_b h26
              have h27 : (v.Kind == 4) = false := beq_eq_false_iff_ne.2 (by have := of_decide_eq_false h1; have := of_decide_eq_false h2; have := ne_of_beq_false h3; have := ne_of_beq_false h14; have := eq_of_beq h24; omega)
              have h28 : (decide (v.Kind > 2)) = true := decide_eq_true (by have := of_decide_eq_false h1; have := of_decide_eq_false h2; have := ne_of_beq_false h3; have := ne_of_beq_false h14; have := eq_of_beq h24; omega)
              simp only [Erun, Ek, Ev, El, Ea, Eu, hX.res, hX.Q, List.getElem?_cons_zero, List.getElem?_cons_succ, seval, Et, h1, h2, h3, h14, h24, h26, h27, h28]
              repeat (with_reducible refine And.intro (by first | assumption | omega | (simp only [i64in] at *; omega)) ?_)
              by_cases h29 : (v.N != 0) = true
              · rw [if_pos h29] at hsh
                simp only [Erun, Ek, Ev, El, Ea, Eu, hX.res, hX.Q, List.getElem?_cons_zero, List.getElem?_cons_succ, seval, Et, h1, h2, h3, h14, h24, h26, h27, h28, h29]
                repeat (with_reducible refine And.intro (by first | assumption | omega | (simp only [i64in] at *; omega)) ?_)
                obtain rfl := Option.some.inj hsh
                refine post_give [] ?_
                simp [El2, El3, El4, Ev, El, Eb, Et, h1, h2, h3, h14, h24, h26, h27, h28, h29]
              · rw [if_neg h29] at hsh; replace h29 := neg_b h29
                have h30 : (v.Kind != 3) = false := bne_eq_false_iff_eq.2 (by have := of_decide_eq_false h1; have := of_decide_eq_false h2; have := ne_of_beq_false h3; have := ne_of_beq_false h14; have := eq_of_beq h24; omega)
                have h31 : (v.Kind != 4) = true := bne_iff_ne.2 (by have := of_decide_eq_false h1; have := of_decide_eq_false h2; have := ne_of_beq_false h3; have := ne_of_beq_false h14; have := eq_of_beq h24; omega)
                simp only [Erun, Ek, Ev, El, Ea, Eu, hX.res, hX.Q, List.getElem?_cons_zero, List.getElem?_cons_succ, seval, Et, h1, h2, h3, h14, h24, h26, h27, h28, h29, h30, h31]
                repeat (with_reducible refine And.intro (by first | assumption | omega | (simp only [i64in] at *; omega)) ?_)
                by_cases h32 : (v.Text == []) = true
                · rw [if_pos h32] at hsh
                  simp only [Erun, Ek, Ev, El, Ea, Eu, hX.res, hX.Q, List.getElem?_cons_zero, List.getElem?_cons_succ, seval, Et, h1, h2, h3, h14, h24, h26, h27, h28, h29, h30, h31, h32]
                  repeat (with_reducible refine And.intro (by first | assumption | omega | (simp only [i64in] at *; omega)) ?_)
                  obtain rfl := Option.some.inj hsh
                  refine post_give [] ?_
                  simp [El2, El3, El4, Ev, El, Eb, Et, h1, h2, h3, h14, h24, h26, h27, h28, h29, h30, h31, h32]
                · rw [if_neg h32] at hsh; replace h32 := neg_b h32
                  simp only [Erun, Ek, Ev, El, Ea, Eu, hX.res, hX.Q, List.getElem?_cons_zero, List.getElem?_cons_succ, seval, Et, h1, h2, h3, h14, h24, h26, h27, h28, h29, h30, h31, h32]
                  repeat (with_reducible refine And.intro (by first | assumption | omega | (simp only [i64in] at *; omega)) ?_)
                  obtain rfl := Option.some.inj hsh
                  refine post_give [] ?_
                  simp [El2, El3, El4, Ev, El, Eb, Et, h1, h2, h3, h14, h24, h26, h27, h28, h29, h30, h31, h32]
          · rw [if_neg h24] at hsh; replace h24 := neg_b h24
            have h33 : (v.Kind == 4) = true := beq_iff_eq.2 (by have := of_decide_eq_false h1; have := of_decide_eq_false h2; have := ne_of_beq_false h3; have := ne_of_beq_false h14; have := ne_of_beq_false h24; omega)
            simp only [Erun, Ek, Ev, El, Ea, Eu, hX.res, hX.Q, List.getElem?_cons_zero, List.getElem?_cons_succ, seval, Et, h1, h2, h3, h14, h24, h33]
            repeat (with_reducible refine And.intro (by first | assumption | omega | (simp only [i64in] at *; omega)) ?_)
            by_cases h34 : (decide ((List.length v.Text : Int) > 24)) = true
            · rw [if_pos h34] at hsh
              simp only [Erun, Ek, Ev, El, Ea, Eu, hX.res, hX.Q, List.getElem?_cons_zero, List.getElem?_cons_succ, seval, Et, h1, h2, h3, h14, h24, h33, h34]
              repeat (with_reducible refine And.intro (by first | assumption | omega | (simp only [i64in] at *; omega)) ?_)
              obtain rfl := Option.some.inj hsh
              refine post_give [] ?_
              simp [El2, El3, El4, Ev, El, Eb, Et, h1, h2, h3, h14, h24, h33, h34]
            · rw [if_neg h34] at hsh; replace h34 := neg_b h34
              have h35 : (decide (v.Kind > 2)) = true := decide_eq_true (by have := of_decide_eq_false h1; have := of_decide_eq_false h2; have := ne_of_beq_false h3; have := ne_of_beq_false h14; have := ne_of_beq_false h24; omega)
              simp only [Erun, Ek, Ev, El, Ea, Eu, hX.res, hX.Q, List.getElem?_cons_zero, List.getElem?_cons_succ, seval, Et, h1, h2, h3, h14, h24, h33, h34, h35]
              repeat (with_reducible refine And.intro (by first | assumption | omega | (simp only [i64in] at *; omega)) ?_)
              by_cases h36 : (v.N != 0) = true
              · rw [if_pos h36] at hsh
                simp only [Erun, Ek, Ev, El, Ea, Eu, hX.res, hX.Q, List.getElem?_cons_zero, List.getElem?_cons_succ, seval, Et, h1, h2, h3, h14, h24, h33, h34, h35, h36]
                repeat (with_reducible refine And.intro (by first | assumption | omega | (simp only [i64in] at *; omega)) ?_)
                obtain rfl := Option.some.inj hsh
                refine post_give [] ?_
                simp [El2, El3, El4, Ev, El, Eb, Et, h1, h2, h3, h14, h24, h33, h34, h35, h36]
              · rw [if_neg h36] at hsh; replace h36 := neg_b h36
                have h37 : (v.Kind != 3) = true := bne_iff_ne.2 (by have := of_decide_eq_false h1; have := of_decide_eq_false h2; have := ne_of_beq_false h3; have := ne_of_beq_false h14; have := ne_of_beq_false h24; omega)
                simp only [Erun, Ek, Ev, El, Ea, Eu, hX.res, hX.Q, List.getElem?_cons_zero, List.getElem?_cons_succ, seval, Et, h1, h2, h3, h14, h24, h33, h34, h35, h36, h37]
                repeat (with_reducible refine And.intro (by first | assumption | omega | (simp only [i64in] at *; omega)) ?_)
                by_cases h38 : (v.Bits != 0) = true
                · rw [if_pos h38] at hsh
                  simp only [Erun, Ek, Ev, El, Ea, Eu, hX.res, hX.Q, List.getElem?_cons_zero, List.getElem?_cons_succ, seval, Et, h1, h2, h3, h14, h24, h33, h34, h35, h36, h37, h38]
                  repeat (with_reducible refine And.intro (by first | assumption | omega | (simp only [i64in] at *; omega)) ?_)
                  obtain rfl := Option.some.inj hsh
                  refine post_give [] ?_
                  simp [El2, El3, El4, Ev, El, Eb, Et, h1, h2, h3, h14, h24, h33, h34, h35, h36, h37, h38]
                · rw [if_neg h38] at hsh; replace h38 := neg_b h38
                  have h39 : (v.Kind != 4) = false := bne_eq_false_iff_eq.2 (by have := of_decide_eq_false h1; have := of_decide_eq_false h2; have := ne_of_beq_false h3; have := ne_of_beq_false h14; have := ne_of_beq_false h24; omega)
                  simp only [Erun, Ek, Ev, El, Ea, Eu, hX.res, hX.Q, List.getElem?_cons_zero, List.getElem?_cons_succ, seval, Et, h1, h2, h3, h14, h24, h33, h34, h35, h36, h37, h38, h39]
                  repeat (with_reducible refine And.intro (by first | assumption | omega | (simp only [i64in] at *; omega)) ?_)
                  obtain rfl := Option.some.inj hsh
                  refine post_give [] ?_
                  simp [El2, El3, El4, Ev, El, Eb, Et, h1, h2, h3, h14, h24, h33, h34, h35, h36, h37, h38, h39]
end Go.Proofs.YtfblfapkpieckaaDoor.W
namespace Go.Proofs.YtfblfapkpieckaaDoor.W
open Go
open Go.Proofs.Tryd
set_option linter.unusedSimpArgs false
set_option linter.unusedVariables false
set_option maxHeartbeats 8000000 in
theorem c_strings_genSplit_v997 (N : Nat) (s : List UInt8) (sepSave : Int) (n : Int) (r : List (List UInt8)) (hsh : s_strings_genSplit_v997 N s sepSave n = some r) : CRes prog 59 [.v (.string (bs s)), .v (.string (bs [32])), .v (.int .i64 sepSave), .v (.int .i64 n)] .nil (.ret (.sl 1 (List.map sav r))) .nil := by
  refine is_strings_genSplit.run hm 1000 _ rfl fun X hX => ?_
  simp only [List.length_cons, List.length_nil, List.replicate, Nat.reduceAdd, Nat.reduceSub, El, Et]
  rw [s_strings_genSplit_v997] at hsh
  simp only [Erun, Ek, Ev, El, Ea, Eu, hX.res, hX.Q, List.getElem?_cons_zero, List.getElem?_cons_succ, seval, Et]
  repeat (with_reducible refine And.intro (by first | assumption | omega | (simp only [i64in] at *; omega)) ?_)
  by_cases h1 : (n == 0) = true
  · rw [if_pos h1] at hsh
    simp only [Erun, Ek, Ev, El, Ea, Eu, hX.res, hX.Q, List.getElem?_cons_zero, List.getElem?_cons_succ, seval, Et, h1]
    repeat (with_reducible refine And.intro (by first | assumption | omega | (simp only [i64in] at *; omega)) ?_)
    obtain rfl := Option.some.inj hsh
    refine post_give [] ?_
    simp [El2, El3, El4, Ev, El, Eb, Et, h1]
  · rw [if_neg h1] at hsh; replace h1 := neg_b h1
    have h2 : (([32] : List UInt8) == []) = false := by rfl
    simp only [Erun, Ek, Ev, El, Ea, Eu, hX.res, hX.Q, List.getElem?_cons_zero, List.getElem?_cons_succ, seval, Et, h1, h2]
    repeat (with_reducible refine And.intro (by first | assumption | omega | (simp only [i64in] at *; omega)) ?_)
    by_cases h3 : (decide (n < 0)) = true
    · rw [if_pos h3] at hsh
      simp only [Erun, Ek, Ev, El, Ea, Eu, hX.res, hX.Q, List.getElem?_cons_zero, List.getElem?_cons_succ, seval, Et, h1, h2, h3]
      repeat (with_reducible refine And.intro (by first | assumption | omega | (simp only [i64in] at *; omega)) ?_)
      obtain ⟨coun, h4, hsh⟩ := Option.bind_eq_some_iff.1 hsh
      have h4k := c_strings_Count_v724 N s coun h4
      rw [← hX.P] at h4k
      refine .inl (vcall_pure _ (by rw [hX.P]; exact is_strings_Count.enters) h4k (fun H => (by simp [El2, El3, El4, Ev, El, Eb, Et, h1, h2, h3])) ?_)
      refine run_go 1000 _ _ _ _ ?_
      obtain ⟨h5, hsh⟩ := guard_some hsh
      obtain ⟨h6, hsh⟩ := guard_some hsh
      simp only [Erun, Ek, Ev, El, Ea, Eu, hX.res, hX.Q, List.getElem?_cons_zero, List.getElem?_cons_succ, seval, Et, h1, h2, h3, h5, h6]
      repeat (with_reducible refine And.intro (by first | assumption | omega | (simp only [i64in] at *; omega)) ?_)
      refine (vraw_pure (fun _ => by rw [hX.P]; exact os_min rfl rfl) (r := .v (.int .i64 (min (coun + 1) ((List.length s : Int) + 1)))) ?_)
      refine run_go 1000 _ _ _ _ ?_
      obtain ⟨h7, hsh⟩ := guard_some hsh
      have g8 : List.replicate (Int.toNat (min (coun + 1) ((List.length s : Int) + 1))) (.v (.string (bs [])) : AV) = (List.map sav (List.replicate (Int.toNat (min (coun + 1) ((List.length s : Int) + 1))) [])) := by simp [List.map_replicate, Et]
      have g8m : cMk prog 103 [0] = some (.v (.string (bs [])), 1, 16) := by kernel_rfl
      simp only [Erun, Ek, Ev, El, Ea, Eu, hX.res, hX.Q, List.getElem?_cons_zero, List.getElem?_cons_succ, seval, Et, h1, h2, h3, h5, h6, h7]
      repeat (with_reducible refine And.intro (by first | assumption | omega | (simp only [i64in] at *; omega)) ?_)
      refine vraw_mk (ks := [0]) (zv := .v (.string (bs []))) (kz := 1) (by_ := 16) (kl := .i64) (kc := .i64) (n := (min (coun + 1) ((List.length s : Int) + 1))) (c := (min (coun + 1) ((List.length s : Int) + 1))) (by rw [hX.P]; exact g8m) (by rfl) (by rfl) (by omega) (by omega) (by omega) (by omega) ?_
      refine run_go 1000 _ _ _ _ ?_
      obtain ⟨h9, hsh⟩ := guard_some hsh
      simp only [Erun, Ek, Ev, El, Ea, Eu, hX.res, hX.Q, List.getElem?_cons_zero, List.getElem?_cons_succ, seval, Et, h1, h2, h3, h5, h6, h7, g8, h9]
      repeat (with_reducible refine And.intro (by first | assumption | omega | (simp only [i64in] at *; omega)) ?_)
      refine go_lessG hX [] [] [0] _ _ (by rfl) (by rfl) (by simp [El2, El3, El4, Ev, El, Eb, Et, h1, h2, h3, h5, h6, h7, h9]) (by simp [El2, El3, El4, Ev, El, Eb, Et, h1, h2, h3, h5, h6, h7, h9]) (by rfl) (by rfl) (by simp [El2, El3, El4, Ev, El, Eb, Et, h1, h2, h3, h5, h6, h7, h9]) (go_loop3 (fun (s2 : List UInt8) (i : Int) (ys : List (List UInt8)) => ([.v (.string (bs s2)), .v (.string (bs [32])), .v (.int .i64 sepSave), .v (.int .i64 ((min (coun + 1) ((List.length s : Int) + 1)) - 1)), .any, .any, .any, .any, .any, .own 0, .v (.int .i64 i)] ++ List.replicate 55 .any)) (fun (s2 : List UInt8) (i : Int) (ys : List (List UInt8)) => ⟨[], [.live 1 (List.map sav ys)]⟩) 1000 (fun next1 ih1 s2 i ys hsh => ?_) N s 0 (List.replicate (Int.toNat (min (coun + 1) ((List.length s : Int) + 1))) []) hsh)
      simp only [List.replicate, El] at ih1 ⊢
      rw [s_strings_genSplit_v997_1] at hsh
      simp only [Erun, Ek, Ev, El, Ea, Eu, hX.res, hX.Q, List.getElem?_cons_zero, List.getElem?_cons_succ, seval, Et, h1, h2, h3, h5, h6, h7, g8, h9]
      repeat (with_reducible refine And.intro (by first | assumption | omega | (simp only [i64in] at *; omega)) ?_)
      by_cases h10 : (decide (i < ((min (coun + 1) ((List.length s : Int) + 1)) - 1))) = true
      · rw [if_pos h10] at hsh
        simp only [Erun, Ek, Ev, El, Ea, Eu, hX.res, hX.Q, List.getElem?_cons_zero, List.getElem?_cons_succ, seval, Et, h1, h2, h3, h5, h6, h7, g8, h9, h10]
        repeat (with_reducible refine And.intro (by first | assumption | omega | (simp only [i64in] at *; omega)) ?_)
        obtain ⟨inde, h11, hsh⟩ := Option.bind_eq_some_iff.1 hsh
        have h11k := c_strings_Index_v724 N s2 inde h11
        rw [← hX.P] at h11k
        refine .inl (vcall_pure _ (by rw [hX.P]; exact is_strings_Index.enters) h11k (fun H => (by simp [El2, El3, El4, Ev, El, Eb, Et, h1, h2, h3, h5, h6, h7, h9, h10])) ?_)
        refine run_go 1000 _ _ _ _ ?_
        simp only [Erun, Ek, Ev, El, Ea, Eu, hX.res, hX.Q, List.getElem?_cons_zero, List.getElem?_cons_succ, seval, Et, h1, h2, h3, h5, h6, h7, g8, h9, h10]
        repeat (with_reducible refine And.intro (by first | assumption | omega | (simp only [i64in] at *; omega)) ?_)
        by_cases h12 : (decide (inde < 0)) = true
        · rw [if_pos h12] at hsh
          obtain ⟨e, h13x, hsh⟩ := Option.bind_eq_some_iff.1 hsh
          obtain ⟨h13a, h13b, h13c, h13d⟩ := ix_some h13x
          have g14 : List.set (List.map sav ys) (Int.toNat i) (.v (.string (bs s2)) : AV) = (List.map sav (List.set ys (Int.toNat i) s2)) := by simp [List.map_set, Et]
          obtain ⟨h15, hsh⟩ := guard_some hsh
          obtain ⟨h16, hsh⟩ := guard_some hsh
          simp only [Erun, Ek, Ev, El, Ea, Eu, hX.res, hX.Q, List.getElem?_cons_zero, List.getElem?_cons_succ, seval, Et, h1, h2, h3, h5, h6, h7, g8, h9, h10, h12, h13a, h13b, h13c, h13d, g14, h15, h16]
          repeat (with_reducible refine And.intro (by first | assumption | omega | (simp only [i64in] at *; omega)) ?_)
          obtain rfl := Option.some.inj hsh
          refine post_give [] ?_
          simp [El2, El3, El4, Ev, El, Eb, Et, h1, h2, h3, h5, h6, h7, h9, h10, h12, h13a, h13b, h13c, h13d, h15, h16]
        · rw [if_neg h12] at hsh; replace h12 := neg_b h12
          obtain ⟨h17, hsh⟩ := guard_some hsh
          obtain ⟨h18, hsh⟩ := guard_some hsh
          obtain ⟨e2, h19x, hsh⟩ := Option.bind_eq_some_iff.1 hsh
          obtain ⟨h19a, h19b, h19c, h19d⟩ := ix_some h19x
          have g20 : List.set (List.map sav ys) (Int.toNat i) (.v (.string (bs (List.take (Int.toNat (inde + sepSave)) s2))) : AV) = (List.map sav (List.set ys (Int.toNat i) (List.take (Int.toNat (inde + sepSave)) s2))) := by simp [List.map_set, Et]
          obtain ⟨h21, hsh⟩ := guard_some hsh
          obtain ⟨h22, hsh⟩ := guard_some hsh
          obtain ⟨h23, hsh⟩ := guard_some hsh
          simp only [Erun, Ek, Ev, El, Ea, Eu, hX.res, hX.Q, List.getElem?_cons_zero, List.getElem?_cons_succ, seval, Et, h1, h2, h3, h5, h6, h7, g8, h9, h10, h12, h17, h18, h19a, h19b, h19c, h19d, g20, h21, h22, h23]
          repeat (with_reducible refine And.intro (by first | assumption | omega | (simp only [i64in] at *; omega)) ?_)
          exact go_lessG hX [] [] [0] _ _ (by rfl) (by rfl) (by simp [El2, El3, El4, Ev, El, Eb, Et, h1, h2, h3, h5, h6, h7, h9, h10, h12, h17, h18, h19a, h19b, h19c, h19d, h21, h22, h23]) (by simp [El2, El3, El4, Ev, El, Eb, Et, h1, h2, h3, h5, h6, h7, h9, h10, h12, h17, h18, h19a, h19b, h19c, h19d, h21, h22, h23]) (by rfl) (by rfl) (by simp [El2, El3, El4, Ev, El, Eb, Et, h1, h2, h3, h5, h6, h7, h9, h10, h12, h17, h18, h19a, h19b, h19c, h19d, h21, h22, h23]) (ih1 (List.drop (Int.toNat (inde + 1)) s2) (i + 1) (List.set ys (Int.toNat i) (List.take (Int.toNat (inde + sepSave)) s2)) hsh)
      · rw [if_neg h10] at hsh; replace h10 := neg_b h10
        obtain ⟨e3, h24x, hsh⟩ := Option.bind_eq_some_iff.1 hsh
        obtain ⟨h24a, h24b, h24c, h24d⟩ := ix_some h24x
        have g25 : List.set (List.map sav ys) (Int.toNat i) (.v (.string (bs s2)) : AV) = (List.map sav (List.set ys (Int.toNat i) s2)) := by simp [List.map_set, Et]
        obtain ⟨h26, hsh⟩ := guard_some hsh
        obtain ⟨h27, hsh⟩ := guard_some hsh
        simp only [Erun, Ek, Ev, El, Ea, Eu, hX.res, hX.Q, List.getElem?_cons_zero, List.getElem?_cons_succ, seval, Et, h1, h2, h3, h5, h6, h7, g8, h9, h10, h24a, h24b, h24c, h24d, g25, h26, h27]
        repeat (with_reducible refine And.intro (by first | assumption | omega | (simp only [i64in] at *; omega)) ?_)
        obtain rfl := Option.some.inj hsh
        refine post_give [] ?_
        simp [El2, El3, El4, Ev, El, Eb, Et, h1, h2, h3, h5, h6, h7, h9, h10, h24a, h24b, h24c, h24d, h26, h27]
    · rw [if_neg h3] at hsh; replace h3 := neg_b h3
      obtain ⟨h28, hsh⟩ := guard_some hsh
      simp only [Erun, Ek, Ev, El, Ea, Eu, hX.res, hX.Q, List.getElem?_cons_zero, List.getElem?_cons_succ, seval, Et, h1, h2, h3, h28]
      repeat (with_reducible refine And.intro (by first | assumption | omega | (simp only [i64in] at *; omega)) ?_)
      refine (vraw_pure (fun _ => by rw [hX.P]; exact os_min rfl rfl) (r := .v (.int .i64 (min n ((List.length s : Int) + 1)))) ?_)
      refine run_go 1000 _ _ _ _ ?_
      obtain ⟨h29, hsh⟩ := guard_some hsh
      have g30 : List.replicate (Int.toNat (min n ((List.length s : Int) + 1))) (.v (.string (bs [])) : AV) = (List.map sav (List.replicate (Int.toNat (min n ((List.length s : Int) + 1))) [])) := by simp [List.map_replicate, Et]
      have g30m : cMk prog 103 [0] = some (.v (.string (bs [])), 1, 16) := by kernel_rfl
      simp only [Erun, Ek, Ev, El, Ea, Eu, hX.res, hX.Q, List.getElem?_cons_zero, List.getElem?_cons_succ, seval, Et, h1, h2, h3, h28, h29]
      repeat (with_reducible refine And.intro (by first | assumption | omega | (simp only [i64in] at *; omega)) ?_)
      refine vraw_mk (ks := [0]) (zv := .v (.string (bs []))) (kz := 1) (by_ := 16) (kl := .i64) (kc := .i64) (n := (min n ((List.length s : Int) + 1))) (c := (min n ((List.length s : Int) + 1))) (by rw [hX.P]; exact g30m) (by rfl) (by rfl) (by omega) (by omega) (by omega) (by omega) ?_
      refine run_go 1000 _ _ _ _ ?_
      obtain ⟨h31, hsh⟩ := guard_some hsh
      simp only [Erun, Ek, Ev, El, Ea, Eu, hX.res, hX.Q, List.getElem?_cons_zero, List.getElem?_cons_succ, seval, Et, h1, h2, h3, h28, h29, g30, h31]
      repeat (with_reducible refine And.intro (by first | assumption | omega | (simp only [i64in] at *; omega)) ?_)
      refine go_lessG hX [] [] [0] _ _ (by rfl) (by rfl) (by simp [El2, El3, El4, Ev, El, Eb, Et, h1, h2, h3, h28, h29, h31]) (by simp [El2, El3, El4, Ev, El, Eb, Et, h1, h2, h3, h28, h29, h31]) (by rfl) (by rfl) (by simp [El2, El3, El4, Ev, El, Eb, Et, h1, h2, h3, h28, h29, h31]) (go_loop3 (fun (s3 : List UInt8) (i2 : Int) (ys2 : List (List UInt8)) => ([.v (.string (bs s3)), .v (.string (bs [32])), .v (.int .i64 sepSave), .v (.int .i64 ((min n ((List.length s : Int) + 1)) - 1)), .any, .any, .any, .any, .any, .own 0, .v (.int .i64 i2)] ++ List.replicate 55 .any)) (fun (s3 : List UInt8) (i2 : Int) (ys2 : List (List UInt8)) => ⟨[], [.live 1 (List.map sav ys2)]⟩) 1000 (fun next2 ih2 s3 i2 ys2 hsh => ?_) N s 0 (List.replicate (Int.toNat (min n ((List.length s : Int) + 1))) []) hsh)
      simp only [List.replicate, El] at ih2 ⊢
      rw [s_strings_genSplit_v997_2] at hsh
      simp only [Erun, Ek, Ev, El, Ea, Eu, hX.res, hX.Q, List.getElem?_cons_zero, List.getElem?_cons_succ, seval, Et, h1, h2, h3, h28, h29, g30, h31]
      repeat (with_reducible refine And.intro (by first | assumption | omega | (simp only [i64in] at *; omega)) ?_)
      by_cases h32 : (decide (i2 < ((min n ((List.length s : Int) + 1)) - 1))) = true
      · rw [if_pos h32] at hsh
        simp only [Erun, Ek, Ev, El, Ea, Eu, hX.res, hX.Q, List.getElem?_cons_zero, List.getElem?_cons_succ, seval, Et, h1, h2, h3, h28, h29, g30, h31, h32]
        repeat (with_reducible refine And.intro (by first | assumption | omega | (simp only [i64in] at *; omega)) ?_)
        obtain ⟨inde2, h33, hsh⟩ := Option.bind_eq_some_iff.1 hsh
        have h33k := c_strings_Index_v724 N s3 inde2 h33
        rw [← hX.P] at h33k
        refine .inl (vcall_pure _ (by rw [hX.P]; exact is_strings_Index.enters) h33k (fun H => (by simp [El2, El3, El4, Ev, El, Eb, Et, h1, h2, h3, h28, h29, h31, h32])) ?_)
        refine run_go 1000 _ _ _ _ ?_
        simp only [Erun, Ek, Ev, El, Ea, Eu, hX.res, hX.Q, List.getElem?_cons_zero, List.getElem?_cons_succ, seval, Et, h1, h2, h3, h28, h29, g30, h31, h32]
        repeat (with_reducible refine And.intro (by first | assumption | omega | (simp only [i64in] at *; omega)) ?_)
        by_cases h34 : (decide (inde2 < 0)) = true
        · rw [if_pos h34] at hsh
          obtain ⟨e4, h35x, hsh⟩ := Option.bind_eq_some_iff.1 hsh
          obtain ⟨h35a, h35b, h35c, h35d⟩ := ix_some h35x
          have g36 : List.set (List.map sav ys2) (Int.toNat i2) (.v (.string (bs s3)) : AV) = (List.map sav (List.set ys2 (Int.toNat i2) s3)) := by simp [List.map_set, Et]
          obtain ⟨h37, hsh⟩ := guard_some hsh
          obtain ⟨h38, hsh⟩ := guard_some hsh
          simp only [Erun, Ek, Ev, El, Ea, Eu, hX.res, hX.Q, List.getElem?_cons_zero, List.getElem?_cons_succ, seval, Et, h1, h2, h3, h28, h29, g30, h31, h32, h34, h35a, h35b, h35c, h35d, g36, h37, h38]
          repeat (with_reducible refine And.intro (by first | assumption | omega | (simp only [i64in] at *; omega)) ?_)
          obtain rfl := Option.some.inj hsh
          refine post_give [] ?_
          simp [El2, El3, El4, Ev, El, Eb, Et, h1, h2, h3, h28, h29, h31, h32, h34, h35a, h35b, h35c, h35d, h37, h38]
        · rw [if_neg h34] at hsh; replace h34 := neg_b h34
          obtain ⟨h39, hsh⟩ := guard_some hsh
          obtain ⟨h40, hsh⟩ := guard_some hsh
          obtain ⟨e5, h41x, hsh⟩ := Option.bind_eq_some_iff.1 hsh
          obtain ⟨h41a, h41b, h41c, h41d⟩ := ix_some h41x
          have g42 : List.set (List.map sav ys2) (Int.toNat i2) (.v (.string (bs (List.take (Int.toNat (inde2 + sepSave)) s3))) : AV) = (List.map sav (List.set ys2 (Int.toNat i2) (List.take (Int.toNat (inde2 + sepSave)) s3))) := by simp [List.map_set, Et]
          obtain ⟨h43, hsh⟩ := guard_some hsh
          obtain ⟨h44, hsh⟩ := guard_some hsh
          obtain ⟨h45, hsh⟩ := guard_some hsh
          simp only [Erun, Ek, Ev, El, Ea, Eu, hX.res, hX.Q, List.getElem?_cons_zero, List.getElem?_cons_succ, seval, Et, h1, h2, h3, h28, h29, g30, h31, h32, h34, h39, h40, h41a, h41b, h41c, h41d, g42, h43, h44, h45]
          repeat (with_reducible refine And.intro (by first | assumption | omega | (simp only [i64in] at *; omega)) ?_)
          exact go_lessG hX [] [] [0] _ _ (by rfl) (by rfl) (by simp [El2, El3, El4, Ev, El, Eb, Et, h1, h2, h3, h28, h29, h31, h32, h34, h39, h40, h41a, h41b, h41c, h41d, h43, h44, h45]) (by simp [El2, El3, El4, Ev, El, Eb, Et, h1, h2, h3, h28, h29, h31, h32, h34, h39, h40, h41a, h41b, h41c, h41d, h43, h44, h45]) (by rfl) (by rfl) (by simp [El2, El3, El4, Ev, El, Eb, Et, h1, h2, h3, h28, h29, h31, h32, h34, h39, h40, h41a, h41b, h41c, h41d, h43, h44, h45]) (ih2 (List.drop (Int.toNat (inde2 + 1)) s3) (i2 + 1) (List.set ys2 (Int.toNat i2) (List.take (Int.toNat (inde2 + sepSave)) s3)) hsh)
      · rw [if_neg h32] at hsh; replace h32 := neg_b h32
        obtain ⟨e6, h46x, hsh⟩ := Option.bind_eq_some_iff.1 hsh
        obtain ⟨h46a, h46b, h46c, h46d⟩ := ix_some h46x
        have g47 : List.set (List.map sav ys2) (Int.toNat i2) (.v (.string (bs s3)) : AV) = (List.map sav (List.set ys2 (Int.toNat i2) s3)) := by simp [List.map_set, Et]
        obtain ⟨h48, hsh⟩ := guard_some hsh
        obtain ⟨h49, hsh⟩ := guard_some hsh
        simp only [Erun, Ek, Ev, El, Ea, Eu, hX.res, hX.Q, List.getElem?_cons_zero, List.getElem?_cons_succ, seval, Et, h1, h2, h3, h28, h29, g30, h31, h32, h46a, h46b, h46c, h46d, g47, h48, h49]
        repeat (with_reducible refine And.intro (by first | assumption | omega | (simp only [i64in] at *; omega)) ?_)
        obtain rfl := Option.some.inj hsh
        refine post_give [] ?_
        simp [El2, El3, El4, Ev, El, Eb, Et, h1, h2, h3, h28, h29, h31, h32, h46a, h46b, h46c, h46d, h48, h49]
end Go.Proofs.YtfblfapkpieckaaDoor.W
namespace Go.Proofs.YtfblfapkpieckaaDoor.W
open Go
open Go.Proofs.Tryd
set_option linter.unusedSimpArgs false
set_option linter.unusedVariables false
set_option maxHeartbeats 8000000 in
theorem c_schema_Type_check (N : Nat) (t : schema_Type) (r : Int) (hsh : s_schema_Type_check N t = some r) : CRes prog 47 [schema_Type.av t] .nil (.ret (.v (.int .i64 r))) .nil := by
  refine is_schema_Type_check.run hm 1000 _ rfl fun X hX => ?_
  simp only [List.length_cons, List.length_nil, List.replicate, Nat.reduceAdd, Nat.reduceSub, El, Et]
  rw [s_schema_Type_check] at hsh
  simp only [Erun, Ek, Ev, El, Ea, Eu, hX.res, hX.Q, List.getElem?_cons_zero, List.getElem?_cons_succ, seval, Et]
  repeat (with_reducible refine And.intro (by first | assumption | omega | (simp only [i64in] at *; omega)) ?_)
  obtain ⟨name, h1, hsh⟩ := Option.bind_eq_some_iff.1 hsh
  have h1k := c_schema_Name N t.Name name h1
  rw [← hX.P] at h1k
  refine .inl (vcall_pure _ (by rw [hX.P]; exact is_schema_Name.enters) h1k (fun H => (by simp [El2, El3, El4, Ev, El, Eb, Et])) ?_)
  refine run_go 1000 _ _ _ _ ?_
  simp only [Erun, Ek, Ev, El, Ea, Eu, hX.res, hX.Q, List.getElem?_cons_zero, List.getElem?_cons_succ, seval, Et]
  repeat (with_reducible refine And.intro (by first | assumption | omega | (simp only [i64in] at *; omega)) ?_)
  by_cases h2 : name = true
  · rw [if_pos h2] at hsh
    simp only [Erun, Ek, Ev, El, Ea, Eu, hX.res, hX.Q, List.getElem?_cons_zero, List.getElem?_cons_succ, seval, Et, h2]
    repeat (with_reducible refine And.intro (by first | assumption | omega | (simp only [i64in] at *; omega)) ?_)
    by_cases h3 : (decide ((List.length t.Fields : Int) > 6)) = true
    · rw [if_pos h3] at hsh
      simp only [Erun, Ek, Ev, El, Ea, Eu, hX.res, hX.Q, List.getElem?_cons_zero, List.getElem?_cons_succ, seval, Et, h2, h3]
      repeat (with_reducible refine And.intro (by first | assumption | omega | (simp only [i64in] at *; omega)) ?_)
      obtain rfl := Option.some.inj hsh
      refine post_give [] ?_
      simp [El2, El3, El4, Ev, El, Eb, Et, h2, h3]
    · rw [if_neg h3] at hsh; replace h3 := neg_b h3
      simp only [Erun, Ek, Ev, El, Ea, Eu, hX.res, hX.Q, List.getElem?_cons_zero, List.getElem?_cons_succ, seval, Et, h2, h3]
      repeat (with_reducible refine And.intro (by first | assumption | omega | (simp only [i64in] at *; omega)) ?_)
      refine go_lessG hX [] [0] [] _ _ (by rfl) (by rfl) (by simp [El2, El3, El4, Ev, El, Eb, Et, h2, h3]) (by simp [El2, El3, El4, Ev, El, Eb, Et, h2, h3]) (by rfl) (by rfl) (by simp [El2, El3, El4, Ev, El, Eb, Et, h2, h3]) (go_loop1 (fun (x : Int) => ([.any, .ptr 0 0, .any, .any, .any, .any, .any, .any, .any, .any, .any, .any, .any, .any, .any, .any, .sl 2 (List.map schema_Field.av t.Fields), .v (.int .i64 (List.length t.Fields : Int)), .v (.int .i64 x)] ++ List.replicate 26 .any)) (fun (x : Int) => ⟨[[.v (.string (bs t.Name)), .sl 2 (List.map schema_Field.av t.Fields)]], []⟩) 1000 (fun next1 ih1 x hsh => ?_) N 0 hsh)
      simp only [List.replicate, El] at ih1 ⊢
      rw [s_schema_Type_check_1] at hsh
      simp only [Erun, Ek, Ev, El, Ea, Eu, hX.res, hX.Q, List.getElem?_cons_zero, List.getElem?_cons_succ, seval, Et, h2, h3]
      repeat (with_reducible refine And.intro (by first | assumption | omega | (simp only [i64in] at *; omega)) ?_)
      by_cases h4 : (decide (x < (List.length t.Fields : Int))) = true
      · rw [if_pos h4] at hsh
        obtain ⟨e, h5x, hsh⟩ := Option.bind_eq_some_iff.1 hsh
        obtain ⟨h5a, h5b, h5c, h5d⟩ := ix_some h5x
        simp only [Erun, Ek, Ev, El, Ea, Eu, hX.res, hX.Q, List.getElem?_cons_zero, List.getElem?_cons_succ, seval, Et, h2, h3, h4, h5a, h5b, h5c, h5d]
        repeat (with_reducible refine And.intro (by first | assumption | omega | (simp only [i64in] at *; omega)) ?_)
        obtain ⟨fiel, h6, hsh⟩ := Option.bind_eq_some_iff.1 hsh
        have h6k := c_schema_Type_Field N t e.Name fiel h6
        rw [← hX.P] at h6k
        refine .inl (vcall_pure _ (by rw [hX.P]; exact is_schema_Type_Field.enters) h6k (fun H => (by simp [El2, El3, El4, Ev, El, Eb, Et, h2, h3, h4, h5a, h5b, h5c, h5d])) ?_)
        refine run_go 1000 _ _ _ _ ?_
        simp only [Erun, Ek, Ev, El, Ea, Eu, hX.res, hX.Q, List.getElem?_cons_zero, List.getElem?_cons_succ, seval, Et, h2, h3, h4, h5a, h5b, h5c, h5d]
        repeat (with_reducible refine And.intro (by first | assumption | omega | (simp only [i64in] at *; omega)) ?_)
        obtain ⟨name2, h7, hsh⟩ := Option.bind_eq_some_iff.1 hsh
        have h7k := c_schema_Name N e.Name name2 h7
        rw [← hX.P] at h7k
        refine .inl (vcall_pure _ (by rw [hX.P]; exact is_schema_Name.enters) h7k (fun H => (by simp [El2, El3, El4, Ev, El, Eb, Et, h2, h3, h4, h5a, h5b, h5c, h5d])) ?_)
        refine run_go 1000 _ _ _ _ ?_
        simp only [Erun, Ek, Ev, El, Ea, Eu, hX.res, hX.Q, List.getElem?_cons_zero, List.getElem?_cons_succ, seval, Et, h2, h3, h4, h5a, h5b, h5c, h5d]
        repeat (with_reducible refine And.intro (by first | assumption | omega | (simp only [i64in] at *; omega)) ?_)
        by_cases h8 : name2 = true
        · rw [if_pos h8] at hsh
          simp only [Erun, Ek, Ev, El, Ea, Eu, hX.res, hX.Q, List.getElem?_cons_zero, List.getElem?_cons_succ, seval, Et, h2, h3, h4, h5a, h5b, h5c, h5d, h8]
          repeat (with_reducible refine And.intro (by first | assumption | omega | (simp only [i64in] at *; omega)) ?_)
          obtain ⟨word, h9, hsh⟩ := Option.bind_eq_some_iff.1 hsh
          have h9k := c_value_Word N e.Kind word h9
          rw [← hX.P] at h9k
          refine .inl (vcall_pure _ (by rw [hX.P]; exact is_value_Word.enters) h9k (fun H => (by simp [El2, El3, El4, Ev, El, Eb, Et, h2, h3, h4, h5a, h5b, h5c, h5d, h8])) ?_)
          refine run_go 1000 _ _ _ _ ?_
          simp only [Erun, Ek, Ev, El, Ea, Eu, hX.res, hX.Q, List.getElem?_cons_zero, List.getElem?_cons_succ, seval, Et, h2, h3, h4, h5a, h5b, h5c, h5d, h8]
          repeat (with_reducible refine And.intro (by first | assumption | omega | (simp only [i64in] at *; omega)) ?_)
          by_cases h10 : (word == []) = true
          · rw [if_pos h10] at hsh
            simp only [Erun, Ek, Ev, El, Ea, Eu, hX.res, hX.Q, List.getElem?_cons_zero, List.getElem?_cons_succ, seval, Et, h2, h3, h4, h5a, h5b, h5c, h5d, h8, h10]
            repeat (with_reducible refine And.intro (by first | assumption | omega | (simp only [i64in] at *; omega)) ?_)
            obtain rfl := Option.some.inj hsh
            refine post_give [] ?_
            simp [El2, El3, El4, Ev, El, Eb, Et, h2, h3, h4, h5a, h5b, h5c, h5d, h8, h10]
          · rw [if_neg h10] at hsh; replace h10 := neg_b h10
            simp only [Erun, Ek, Ev, El, Ea, Eu, hX.res, hX.Q, List.getElem?_cons_zero, List.getElem?_cons_succ, seval, Et, h2, h3, h4, h5a, h5b, h5c, h5d, h8, h10]
            repeat (with_reducible refine And.intro (by first | assumption | omega | (simp only [i64in] at *; omega)) ?_)
            by_cases h11 : (fiel.1 != x) = true
            · rw [if_pos h11] at hsh
              simp only [Erun, Ek, Ev, El, Ea, Eu, hX.res, hX.Q, List.getElem?_cons_zero, List.getElem?_cons_succ, seval, Et, h2, h3, h4, h5a, h5b, h5c, h5d, h8, h10, h11]
              repeat (with_reducible refine And.intro (by first | assumption | omega | (simp only [i64in] at *; omega)) ?_)
              obtain rfl := Option.some.inj hsh
              refine post_give [] ?_
              simp [El2, El3, El4, Ev, El, Eb, Et, h2, h3, h4, h5a, h5b, h5c, h5d, h8, h10, h11]
            · rw [if_neg h11] at hsh; replace h11 := neg_b h11
              obtain ⟨h12, hsh⟩ := guard_some hsh
              simp only [Erun, Ek, Ev, El, Ea, Eu, hX.res, hX.Q, List.getElem?_cons_zero, List.getElem?_cons_succ, seval, Et, h2, h3, h4, h5a, h5b, h5c, h5d, h8, h10, h11, h12]
              repeat (with_reducible refine And.intro (by first | assumption | omega | (simp only [i64in] at *; omega)) ?_)
              exact go_lessG hX [] [0] [] _ _ (by rfl) (by rfl) (by simp [El2, El3, El4, Ev, El, Eb, Et, h2, h3, h4, h5a, h5b, h5c, h5d, h8, h10, h11, h12]) (by simp [El2, El3, El4, Ev, El, Eb, Et, h2, h3, h4, h5a, h5b, h5c, h5d, h8, h10, h11, h12]) (by rfl) (by rfl) (by simp [El2, El3, El4, Ev, El, Eb, Et, h2, h3, h4, h5a, h5b, h5c, h5d, h8, h10, h11, h12]) (ih1 (x + 1) hsh)
        · rw [if_neg h8] at hsh; replace h8 := neg_b h8
          simp only [Erun, Ek, Ev, El, Ea, Eu, hX.res, hX.Q, List.getElem?_cons_zero, List.getElem?_cons_succ, seval, Et, h2, h3, h4, h5a, h5b, h5c, h5d, h8]
          repeat (with_reducible refine And.intro (by first | assumption | omega | (simp only [i64in] at *; omega)) ?_)
          obtain rfl := Option.some.inj hsh
          refine post_give [] ?_
          simp [El2, El3, El4, Ev, El, Eb, Et, h2, h3, h4, h5a, h5b, h5c, h5d, h8]
      · rw [if_neg h4] at hsh; replace h4 := neg_b h4
        simp only [Erun, Ek, Ev, El, Ea, Eu, hX.res, hX.Q, List.getElem?_cons_zero, List.getElem?_cons_succ, seval, Et, h2, h3, h4]
        repeat (with_reducible refine And.intro (by first | assumption | omega | (simp only [i64in] at *; omega)) ?_)
        obtain rfl := Option.some.inj hsh
        refine post_give [] ?_
        simp [El2, El3, El4, Ev, El, Eb, Et, h2, h3, h4]
  · rw [if_neg h2] at hsh; replace h2 := neg_b h2
    simp only [Erun, Ek, Ev, El, Ea, Eu, hX.res, hX.Q, List.getElem?_cons_zero, List.getElem?_cons_succ, seval, Et, h2]
    repeat (with_reducible refine And.intro (by first | assumption | omega | (simp only [i64in] at *; omega)) ?_)
    obtain rfl := Option.some.inj hsh
    refine post_give [] ?_
    simp [El2, El3, El4, Ev, El, Eb, Et, h2]
set_option maxHeartbeats 8000000 in
theorem c_strings_Cut_v860 (N : Nat) (s : List UInt8) (r : List UInt8 × List UInt8 × Bool) (hsh : s_strings_Cut_v860 N s = some r) : CRes prog 44 [.v (.string (bs s)), .v (.string (bs [10]))] .nil (.ret (.tup [.v (.string (bs r.1)), .v (.string (bs r.2.1)), .v (.bool r.2.2)])) .nil := by
  refine is_strings_Cut.run hm 1000 _ rfl fun X hX => ?_
  simp only [List.length_cons, List.length_nil, List.replicate, Nat.reduceAdd, Nat.reduceSub, El, Et]
  rw [s_strings_Cut_v860] at hsh
  simp only [Erun, Ek, Ev, El, Ea, Eu, hX.res, hX.Q, List.getElem?_cons_zero, List.getElem?_cons_succ, seval, Et]
  repeat (with_reducible refine And.intro (by first | assumption | omega | (simp only [i64in] at *; omega)) ?_)
  obtain ⟨cut, h1, hsh⟩ := Option.bind_eq_some_iff.1 hsh
  have h1k := c_stringslite_Cut_v860 N s cut h1
  rw [← hX.P] at h1k
  refine .inl (vcall_pure _ (by rw [hX.P]; exact is_stringslite_Cut.enters) h1k (fun H => (by simp [El2, El3, El4, Ev, El, Eb, Et])) ?_)
  refine run_go 1000 _ _ _ _ ?_
  simp only [Erun, Ek, Ev, El, Ea, Eu, hX.res, hX.Q, List.getElem?_cons_zero, List.getElem?_cons_succ, seval, Et]
  repeat (with_reducible refine And.intro (by first | assumption | omega | (simp only [i64in] at *; omega)) ?_)
  obtain rfl := Option.some.inj hsh
  refine post_give [] ?_
  simp [El2, El3, El4, Ev, El, Eb, Et]
set_option maxHeartbeats 8000000 in
theorem c_strings_Cut_v682 (N : Nat) (s : List UInt8) (r : List UInt8 × List UInt8 × Bool) (hsh : s_strings_Cut_v682 N s = some r) : CRes prog 44 [.v (.string (bs s)), .v (.string (bs [58]))] .nil (.ret (.tup [.v (.string (bs r.1)), .v (.string (bs r.2.1)), .v (.bool r.2.2)])) .nil := by
  refine is_strings_Cut.run hm 1000 _ rfl fun X hX => ?_
  simp only [List.length_cons, List.length_nil, List.replicate, Nat.reduceAdd, Nat.reduceSub, El, Et]
  rw [s_strings_Cut_v682] at hsh
  simp only [Erun, Ek, Ev, El, Ea, Eu, hX.res, hX.Q, List.getElem?_cons_zero, List.getElem?_cons_succ, seval, Et]
  repeat (with_reducible refine And.intro (by first | assumption | omega | (simp only [i64in] at *; omega)) ?_)
  obtain ⟨cut, h1, hsh⟩ := Option.bind_eq_some_iff.1 hsh
  have h1k := c_stringslite_Cut_v682 N s cut h1
  rw [← hX.P] at h1k
  refine .inl (vcall_pure _ (by rw [hX.P]; exact is_stringslite_Cut.enters) h1k (fun H => (by simp [El2, El3, El4, Ev, El, Eb, Et])) ?_)
  refine run_go 1000 _ _ _ _ ?_
  simp only [Erun, Ek, Ev, El, Ea, Eu, hX.res, hX.Q, List.getElem?_cons_zero, List.getElem?_cons_succ, seval, Et]
  repeat (with_reducible refine And.intro (by first | assumption | omega | (simp only [i64in] at *; omega)) ?_)
  obtain rfl := Option.some.inj hsh
  refine post_give [] ?_
  simp [El2, El3, El4, Ev, El, Eb, Et]
set_option maxHeartbeats 8000000 in
theorem c_schema_Same (N : Nat) (a : List schema_Type) (b : List schema_Type) (r : Bool) (hsh : s_schema_Same N a b = some r) : CRes prog 43 [.sl 2 (List.map schema_Type.av a), .sl 2 (List.map schema_Type.av b)] .nil (.ret (.v (.bool r))) .nil := by
  refine is_schema_Same.run hm 1000 _ rfl fun X hX => ?_
  simp only [List.length_cons, List.length_nil, List.replicate, Nat.reduceAdd, Nat.reduceSub, El, Et]
  rw [s_schema_Same] at hsh
  simp only [Erun, Ek, Ev, El, Ea, Eu, hX.res, hX.Q, List.getElem?_cons_zero, List.getElem?_cons_succ, seval, Et]
  repeat (with_reducible refine And.intro (by first | assumption | omega | (simp only [i64in] at *; omega)) ?_)
  obtain ⟨type, h1, hsh⟩ := Option.bind_eq_some_iff.1 hsh
  have h1k := c_slices_EqualFunc_schema_Type_v029 N a b type h1
  rw [← hX.P] at h1k
  refine .inl (vcall_pure _ (by rw [hX.P]; exact is_slices_EqualFunc_schema_Type.enters) h1k (fun H => (by simp [El2, El3, El4, Ev, El, Eb, Et])) ?_)
  refine run_go 1000 _ _ _ _ ?_
  simp only [Erun, Ek, Ev, El, Ea, Eu, hX.res, hX.Q, List.getElem?_cons_zero, List.getElem?_cons_succ, seval, Et]
  repeat (with_reducible refine And.intro (by first | assumption | omega | (simp only [i64in] at *; omega)) ?_)
  obtain rfl := Option.some.inj hsh
  refine post_give [] ?_
  simp [El2, El3, El4, Ev, El, Eb, Et]
end Go.Proofs.YtfblfapkpieckaaDoor.W
namespace Go.Proofs.YtfblfapkpieckaaDoor.W
open Go
open Go.Proofs.Tryd
set_option linter.unusedSimpArgs false
set_option linter.unusedVariables false
set_option maxHeartbeats 8000000 in
theorem c_ref06_Check (N : Nat) (l : List schema_Type) (r : Int) (hsh : s_ref06_Check N l = some r) : CRes prog 29 [.sl 2 (List.map schema_Type.av l)] .nil (.ret (.v (.int .i64 r))) .nil := by
  refine is_ref06_Check.run hm 1000 _ rfl fun X hX => ?_
  simp only [List.length_cons, List.length_nil, List.replicate, Nat.reduceAdd, Nat.reduceSub, El, Et]
  rw [s_ref06_Check] at hsh
  simp only [Erun, Ek, Ev, El, Ea, Eu, hX.res, hX.Q, List.getElem?_cons_zero, List.getElem?_cons_succ, seval, Et]
  repeat (with_reducible refine And.intro (by first | assumption | omega | (simp only [i64in] at *; omega)) ?_)
  by_cases h1 : (decide ((List.length l : Int) > 8)) = true
  · rw [if_pos h1] at hsh
    simp only [Erun, Ek, Ev, El, Ea, Eu, hX.res, hX.Q, List.getElem?_cons_zero, List.getElem?_cons_succ, seval, Et, h1]
    repeat (with_reducible refine And.intro (by first | assumption | omega | (simp only [i64in] at *; omega)) ?_)
    obtain rfl := Option.some.inj hsh
    refine post_give [] ?_
    simp [El2, El3, El4, Ev, El, Eb, Et, h1]
  · rw [if_neg h1] at hsh; replace h1 := neg_b h1
    simp only [Erun, Ek, Ev, El, Ea, Eu, hX.res, hX.Q, List.getElem?_cons_zero, List.getElem?_cons_succ, seval, Et, h1]
    repeat (with_reducible refine And.intro (by first | assumption | omega | (simp only [i64in] at *; omega)) ?_)
    refine go_lessG hX [] [] [] _ _ (by rfl) (by rfl) (by simp [El2, El3, El4, Ev, El, Eb, Et, h1]) (by simp [El2, El3, El4, Ev, El, Eb, Et, h1]) (by rfl) (by rfl) (by simp [El2, El3, El4, Ev, El, Eb, Et, h1]) (go_loop1 (fun (i : Int) => ([.sl 2 (List.map schema_Type.av l), .any, .any, .v (.int .i64 i)] ++ List.replicate 35 .any)) (fun (i : Int) => ⟨[], []⟩) 1000 (fun next1 ih1 i hsh => ?_) N 0 hsh)
    simp only [List.replicate, El] at ih1 ⊢
    rw [s_ref06_Check_1] at hsh
    simp only [Erun, Ek, Ev, El, Ea, Eu, hX.res, hX.Q, List.getElem?_cons_zero, List.getElem?_cons_succ, seval, Et, h1]
    repeat (with_reducible refine And.intro (by first | assumption | omega | (simp only [i64in] at *; omega)) ?_)
    by_cases h2 : (decide (i < (List.length l : Int))) = true
    · rw [if_pos h2] at hsh
      obtain ⟨e, h3x, hsh⟩ := Option.bind_eq_some_iff.1 hsh
      obtain ⟨h3a, h3b, h3c, h3d⟩ := ix_some h3x
      simp only [Erun, Ek, Ev, El, Ea, Eu, hX.res, hX.Q, List.getElem?_cons_zero, List.getElem?_cons_succ, seval, Et, h1, h2, h3a, h3b, h3c, h3d]
      repeat (with_reducible refine And.intro (by first | assumption | omega | (simp only [i64in] at *; omega)) ?_)
      obtain ⟨one, h4, hsh⟩ := Option.bind_eq_some_iff.1 hsh
      have h4k := c_ref06_one N e one h4
      rw [← hX.P] at h4k
      refine .inl (vcall_pure _ (by rw [hX.P]; exact is_ref06_one.enters) h4k (fun H => (by simp [El2, El3, El4, Ev, El, Eb, Et, h1, h2, h3a, h3b, h3c, h3d])) ?_)
      refine run_go 1000 _ _ _ _ ?_
      simp only [Erun, Ek, Ev, El, Ea, Eu, hX.res, hX.Q, List.getElem?_cons_zero, List.getElem?_cons_succ, seval, Et, h1, h2, h3a, h3b, h3c, h3d]
      repeat (with_reducible refine And.intro (by first | assumption | omega | (simp only [i64in] at *; omega)) ?_)
      by_cases h5 : (one != 0) = true
      · rw [if_pos h5] at hsh
        simp only [Erun, Ek, Ev, El, Ea, Eu, hX.res, hX.Q, List.getElem?_cons_zero, List.getElem?_cons_succ, seval, Et, h1, h2, h3a, h3b, h3c, h3d, h5]
        repeat (with_reducible refine And.intro (by first | assumption | omega | (simp only [i64in] at *; omega)) ?_)
        obtain rfl := Option.some.inj hsh
        refine post_give [] ?_
        simp [El2, El3, El4, Ev, El, Eb, Et, h1, h2, h3a, h3b, h3c, h3d, h5]
      · rw [if_neg h5] at hsh; replace h5 := neg_b h5
        simp only [Erun, Ek, Ev, El, Ea, Eu, hX.res, hX.Q, List.getElem?_cons_zero, List.getElem?_cons_succ, seval, Et, h1, h2, h3a, h3b, h3c, h3d, h5]
        repeat (with_reducible refine And.intro (by first | assumption | omega | (simp only [i64in] at *; omega)) ?_)
        refine go_lessG hX [] [] [] _ _ (by rfl) (by rfl) (by simp [El2, El3, El4, Ev, El, Eb, Et, h1, h2, h3a, h3b, h3c, h3d, h5]) (by simp [El2, El3, El4, Ev, El, Eb, Et, h1, h2, h3a, h3b, h3c, h3d, h5]) (by rfl) (by rfl) (by simp [El2, El3, El4, Ev, El, Eb, Et, h1, h2, h3a, h3b, h3c, h3d, h5]) (go_loop1 (fun (k : Int) => ([.sl 2 (List.map schema_Type.av l), .any, .any, .v (.int .i64 i), .any, .v (.int .i64 k)] ++ List.replicate 33 .any)) (fun (k : Int) => ⟨[], []⟩) 1000 (fun next2 ih2 k hsh => ?_) N 0 hsh)
        simp only [List.replicate, El] at ih2 ⊢
        rw [s_ref06_Check_2] at hsh
        simp only [Erun, Ek, Ev, El, Ea, Eu, hX.res, hX.Q, List.getElem?_cons_zero, List.getElem?_cons_succ, seval, Et, h1, h2, h3a, h3b, h3c, h3d, h5]
        repeat (with_reducible refine And.intro (by first | assumption | omega | (simp only [i64in] at *; omega)) ?_)
        by_cases h6 : (decide (k < i)) = true
        · rw [if_pos h6] at hsh
          obtain ⟨e2, h7x, hsh⟩ := Option.bind_eq_some_iff.1 hsh
          obtain ⟨h7a, h7b, h7c, h7d⟩ := ix_some h7x
          simp only [Erun, Ek, Ev, El, Ea, Eu, hX.res, hX.Q, List.getElem?_cons_zero, List.getElem?_cons_succ, seval, Et, h1, h2, h3a, h3b, h3c, h3d, h5, h6, h7a, h7b, h7c, h7d]
          repeat (with_reducible refine And.intro (by first | assumption | omega | (simp only [i64in] at *; omega)) ?_)
          by_cases h8 : (e2.Name == e.Name) = true
          · rw [if_pos h8] at hsh
            simp only [Erun, Ek, Ev, El, Ea, Eu, hX.res, hX.Q, List.getElem?_cons_zero, List.getElem?_cons_succ, seval, Et, h1, h2, h3a, h3b, h3c, h3d, h5, h6, h7a, h7b, h7c, h7d, h8]
            repeat (with_reducible refine And.intro (by first | assumption | omega | (simp only [i64in] at *; omega)) ?_)
            obtain rfl := Option.some.inj hsh
            refine post_give [] ?_
            simp [El2, El3, El4, Ev, El, Eb, Et, h1, h2, h3a, h3b, h3c, h3d, h5, h6, h7a, h7b, h7c, h7d, h8]
          · rw [if_neg h8] at hsh; replace h8 := neg_b h8
            obtain ⟨h9, hsh⟩ := guard_some hsh
            simp only [Erun, Ek, Ev, El, Ea, Eu, hX.res, hX.Q, List.getElem?_cons_zero, List.getElem?_cons_succ, seval, Et, h1, h2, h3a, h3b, h3c, h3d, h5, h6, h7a, h7b, h7c, h7d, h8, h9]
            repeat (with_reducible refine And.intro (by first | assumption | omega | (simp only [i64in] at *; omega)) ?_)
            exact go_lessG hX [] [] [] _ _ (by rfl) (by rfl) (by simp [El2, El3, El4, Ev, El, Eb, Et, h1, h2, h3a, h3b, h3c, h3d, h5, h6, h7a, h7b, h7c, h7d, h8, h9]) (by simp [El2, El3, El4, Ev, El, Eb, Et, h1, h2, h3a, h3b, h3c, h3d, h5, h6, h7a, h7b, h7c, h7d, h8, h9]) (by rfl) (by rfl) (by simp [El2, El3, El4, Ev, El, Eb, Et, h1, h2, h3a, h3b, h3c, h3d, h5, h6, h7a, h7b, h7c, h7d, h8, h9]) (ih2 (k + 1) hsh)
        · rw [if_neg h6] at hsh; replace h6 := neg_b h6
          obtain ⟨h10, hsh⟩ := guard_some hsh
          simp only [Erun, Ek, Ev, El, Ea, Eu, hX.res, hX.Q, List.getElem?_cons_zero, List.getElem?_cons_succ, seval, Et, h1, h2, h3a, h3b, h3c, h3d, h5, h6, h10]
          repeat (with_reducible refine And.intro (by first | assumption | omega | (simp only [i64in] at *; omega)) ?_)
          exact go_lessG hX [] [] [] _ _ (by rfl) (by rfl) (by simp [El2, El3, El4, Ev, El, Eb, Et, h1, h2, h3a, h3b, h3c, h3d, h5, h6, h10]) (by simp [El2, El3, El4, Ev, El, Eb, Et, h1, h2, h3a, h3b, h3c, h3d, h5, h6, h10]) (by rfl) (by rfl) (by simp [El2, El3, El4, Ev, El, Eb, Et, h1, h2, h3a, h3b, h3c, h3d, h5, h6, h10]) (ih1 (i + 1) hsh)
    · rw [if_neg h2] at hsh; replace h2 := neg_b h2
      simp only [Erun, Ek, Ev, El, Ea, Eu, hX.res, hX.Q, List.getElem?_cons_zero, List.getElem?_cons_succ, seval, Et, h1, h2]
      repeat (with_reducible refine And.intro (by first | assumption | omega | (simp only [i64in] at *; omega)) ?_)
      obtain rfl := Option.some.inj hsh
      refine post_give [] ?_
      simp [El2, El3, El4, Ev, El, Eb, Et, h1, h2]
set_option maxHeartbeats 8000000 in
theorem c_schema_Fits (N : Nat) (t : schema_Type) (vals : List value_Value) (r : Int) (hsh : s_schema_Fits N t vals = some r) : CRes prog 51 [schema_Type.av t, .sl 4 (List.map value_Value.av vals)] .nil (.ret (.v (.int .i64 r))) .nil := by
  refine is_schema_Fits.run hm 1000 _ rfl fun X hX => ?_
  simp only [List.length_cons, List.length_nil, List.replicate, Nat.reduceAdd, Nat.reduceSub, El, Et]
  rw [s_schema_Fits] at hsh
  simp only [Erun, Ek, Ev, El, Ea, Eu, hX.res, hX.Q, List.getElem?_cons_zero, List.getElem?_cons_succ, seval, Et]
  repeat (with_reducible refine And.intro (by first | assumption | omega | (simp only [i64in] at *; omega)) ?_)
  by_cases h1 : ((List.length vals : Int) != (List.length t.Fields : Int)) = true
  · rw [if_pos h1] at hsh
    simp only [Erun, Ek, Ev, El, Ea, Eu, hX.res, hX.Q, List.getElem?_cons_zero, List.getElem?_cons_succ, seval, Et, h1]
    repeat (with_reducible refine And.intro (by first | assumption | omega | (simp only [i64in] at *; omega)) ?_)
    obtain rfl := Option.some.inj hsh
    refine post_give [] ?_
    simp [El2, El3, El4, Ev, El, Eb, Et, h1]
  · rw [if_neg h1] at hsh; replace h1 := neg_b h1
    simp only [Erun, Ek, Ev, El, Ea, Eu, hX.res, hX.Q, List.getElem?_cons_zero, List.getElem?_cons_succ, seval, Et, h1]
    repeat (with_reducible refine And.intro (by first | assumption | omega | (simp only [i64in] at *; omega)) ?_)
    refine go_lessG hX [] [0] [] _ _ (by rfl) (by rfl) (by simp [El2, El3, El4, Ev, El, Eb, Et, h1]) (by simp [El2, El3, El4, Ev, El, Eb, Et, h1]) (by rfl) (by rfl) (by simp [El2, El3, El4, Ev, El, Eb, Et, h1]) (go_loop1 (fun (x : Int) => ([.any, .any, .ptr 0 0, .any, .any, .any, .any, .any, .any, .any, .any, .any, .any, .any, .sl 4 (List.map value_Value.av vals), .v (.int .i64 (List.length vals : Int)), .v (.int .i64 x)] ++ List.replicate 19 .any)) (fun (x : Int) => ⟨[[.v (.string (bs t.Name)), .sl 2 (List.map schema_Field.av t.Fields)]], []⟩) 1000 (fun next1 ih1 x hsh => ?_) N 0 hsh)
    simp only [List.replicate, El] at ih1 ⊢
    rw [s_schema_Fits_1] at hsh
    simp only [Erun, Ek, Ev, El, Ea, Eu, hX.res, hX.Q, List.getElem?_cons_zero, List.getElem?_cons_succ, seval, Et, h1]
    repeat (with_reducible refine And.intro (by first | assumption | omega | (simp only [i64in] at *; omega)) ?_)
    by_cases h2 : (decide (x < (List.length vals : Int))) = true
    · rw [if_pos h2] at hsh
      obtain ⟨e, h3x, hsh⟩ := Option.bind_eq_some_iff.1 hsh
      obtain ⟨h3a, h3b, h3c, h3d⟩ := ix_some h3x
      simp only [Erun, Ek, Ev, El, Ea, Eu, hX.res, hX.Q, List.getElem?_cons_zero, List.getElem?_cons_succ, seval, Et, h1, h2, h3a, h3b, h3c, h3d]
      repeat (with_reducible refine And.intro (by first | assumption | omega | (simp only [i64in] at *; omega)) ?_)
      obtain ⟨chec, h4, hsh⟩ := Option.bind_eq_some_iff.1 hsh
      have h4k := c_value_Check N e chec h4
      rw [← hX.P] at h4k
      refine .inl (vcall_pure _ (by rw [hX.P]; exact is_value_Check.enters) h4k (fun H => (by simp [El2, El3, El4, Ev, El, Eb, Et, h1, h2, h3a, h3b, h3c, h3d])) ?_)
      refine run_go 1000 _ _ _ _ ?_
      simp only [Erun, Ek, Ev, El, Ea, Eu, hX.res, hX.Q, List.getElem?_cons_zero, List.getElem?_cons_succ, seval, Et, h1, h2, h3a, h3b, h3c, h3d]
      repeat (with_reducible refine And.intro (by first | assumption | omega | (simp only [i64in] at *; omega)) ?_)
      by_cases h5 : (chec != 0) = true
      · rw [if_pos h5] at hsh
        simp only [Erun, Ek, Ev, El, Ea, Eu, hX.res, hX.Q, List.getElem?_cons_zero, List.getElem?_cons_succ, seval, Et, h1, h2, h3a, h3b, h3c, h3d, h5]
        repeat (with_reducible refine And.intro (by first | assumption | omega | (simp only [i64in] at *; omega)) ?_)
        obtain rfl := Option.some.inj hsh
        refine post_give [] ?_
        simp [El2, El3, El4, Ev, El, Eb, Et, h1, h2, h3a, h3b, h3c, h3d, h5]
      · rw [if_neg h5] at hsh; replace h5 := neg_b h5
        obtain ⟨e2, h6x, hsh⟩ := Option.bind_eq_some_iff.1 hsh
        obtain ⟨h6a, h6b, h6c, h6d⟩ := ix_some h6x
        simp only [Erun, Ek, Ev, El, Ea, Eu, hX.res, hX.Q, List.getElem?_cons_zero, List.getElem?_cons_succ, seval, Et, h1, h2, h3a, h3b, h3c, h3d, h5, h6a, h6b, h6c, h6d]
        repeat (with_reducible refine And.intro (by first | assumption | omega | (simp only [i64in] at *; omega)) ?_)
        by_cases h7 : (e.Kind != e2.Kind) = true
        · rw [if_pos h7] at hsh
          simp only [Erun, Ek, Ev, El, Ea, Eu, hX.res, hX.Q, List.getElem?_cons_zero, List.getElem?_cons_succ, seval, Et, h1, h2, h3a, h3b, h3c, h3d, h5, h6a, h6b, h6c, h6d, h7]
          repeat (with_reducible refine And.intro (by first | assumption | omega | (simp only [i64in] at *; omega)) ?_)
          obtain rfl := Option.some.inj hsh
          refine post_give [] ?_
          simp [El2, El3, El4, Ev, El, Eb, Et, h1, h2, h3a, h3b, h3c, h3d, h5, h6a, h6b, h6c, h6d, h7]
        · rw [if_neg h7] at hsh; replace h7 := neg_b h7
          obtain ⟨h8, hsh⟩ := guard_some hsh
          simp only [Erun, Ek, Ev, El, Ea, Eu, hX.res, hX.Q, List.getElem?_cons_zero, List.getElem?_cons_succ, seval, Et, h1, h2, h3a, h3b, h3c, h3d, h5, h6a, h6b, h6c, h6d, h7, h8]
          repeat (with_reducible refine And.intro (by first | assumption | omega | (simp only [i64in] at *; omega)) ?_)
          exact go_lessG hX [] [0] [] _ _ (by rfl) (by rfl) (by simp [El2, El3, El4, Ev, El, Eb, Et, h1, h2, h3a, h3b, h3c, h3d, h5, h6a, h6b, h6c, h6d, h7, h8]) (by simp [El2, El3, El4, Ev, El, Eb, Et, h1, h2, h3a, h3b, h3c, h3d, h5, h6a, h6b, h6c, h6d, h7, h8]) (by rfl) (by rfl) (by simp [El2, El3, El4, Ev, El, Eb, Et, h1, h2, h3a, h3b, h3c, h3d, h5, h6a, h6b, h6c, h6d, h7, h8]) (ih1 (x + 1) hsh)
    · rw [if_neg h2] at hsh; replace h2 := neg_b h2
      simp only [Erun, Ek, Ev, El, Ea, Eu, hX.res, hX.Q, List.getElem?_cons_zero, List.getElem?_cons_succ, seval, Et, h1, h2]
      repeat (with_reducible refine And.intro (by first | assumption | omega | (simp only [i64in] at *; omega)) ?_)
      obtain rfl := Option.some.inj hsh
      refine post_give [] ?_
      simp [El2, El3, El4, Ev, El, Eb, Et, h1, h2]
end Go.Proofs.YtfblfapkpieckaaDoor.W
namespace Go.Proofs.YtfblfapkpieckaaDoor.W
open Go
open Go.Proofs.Tryd
set_option linter.unusedSimpArgs false
set_option linter.unusedVariables false
set_option maxHeartbeats 8000000 in
theorem c_schema_Check (N : Nat) (l : List schema_Type) (r : Int) (hsh : s_schema_Check N l = some r) : CRes prog 27 [.sl 2 (List.map schema_Type.av l)] .nil (.ret (.v (.int .i64 r))) .nil := by
  refine is_schema_Check.run hm 1000 _ rfl fun X hX => ?_
  simp only [List.length_cons, List.length_nil, List.replicate, Nat.reduceAdd, Nat.reduceSub, El, Et]
  rw [s_schema_Check] at hsh
  simp only [Erun, Ek, Ev, El, Ea, Eu, hX.res, hX.Q, List.getElem?_cons_zero, List.getElem?_cons_succ, seval, Et]
  repeat (with_reducible refine And.intro (by first | assumption | omega | (simp only [i64in] at *; omega)) ?_)
  by_cases h1 : (decide ((List.length l : Int) > 8)) = true
  · rw [if_pos h1] at hsh
    simp only [Erun, Ek, Ev, El, Ea, Eu, hX.res, hX.Q, List.getElem?_cons_zero, List.getElem?_cons_succ, seval, Et, h1]
    repeat (with_reducible refine And.intro (by first | assumption | omega | (simp only [i64in] at *; omega)) ?_)
    obtain rfl := Option.some.inj hsh
    refine post_give [] ?_
    simp [El2, El3, El4, Ev, El, Eb, Et, h1]
  · rw [if_neg h1] at hsh; replace h1 := neg_b h1
    simp only [Erun, Ek, Ev, El, Ea, Eu, hX.res, hX.Q, List.getElem?_cons_zero, List.getElem?_cons_succ, seval, Et, h1]
    repeat (with_reducible refine And.intro (by first | assumption | omega | (simp only [i64in] at *; omega)) ?_)
    refine go_lessG hX [] [] [] _ _ (by rfl) (by rfl) (by simp [El2, El3, El4, Ev, El, Eb, Et, h1]) (by simp [El2, El3, El4, Ev, El, Eb, Et, h1]) (by rfl) (by rfl) (by simp [El2, El3, El4, Ev, El, Eb, Et, h1]) (go_loop1 (fun (x : Int) => ([.sl 2 (List.map schema_Type.av l), .any, .any, .any, .any, .any, .any, .any, .any, .any, .any, .sl 2 (List.map schema_Type.av l), .v (.int .i64 (List.length l : Int)), .v (.int .i64 x)] ++ List.replicate 20 .any)) (fun (x : Int) => ⟨[], []⟩) 1000 (fun next1 ih1 x hsh => ?_) N 0 hsh)
    simp only [List.replicate, El] at ih1 ⊢
    rw [s_schema_Check_1] at hsh
    simp only [Erun, Ek, Ev, El, Ea, Eu, hX.res, hX.Q, List.getElem?_cons_zero, List.getElem?_cons_succ, seval, Et, h1]
    repeat (with_reducible refine And.intro (by first | assumption | omega | (simp only [i64in] at *; omega)) ?_)
    by_cases h2 : (decide (x < (List.length l : Int))) = true
    · rw [if_pos h2] at hsh
      obtain ⟨e, h3x, hsh⟩ := Option.bind_eq_some_iff.1 hsh
      obtain ⟨h3a, h3b, h3c, h3d⟩ := ix_some h3x
      simp only [Erun, Ek, Ev, El, Ea, Eu, hX.res, hX.Q, List.getElem?_cons_zero, List.getElem?_cons_succ, seval, Et, h1, h2, h3a, h3b, h3c, h3d]
      repeat (with_reducible refine And.intro (by first | assumption | omega | (simp only [i64in] at *; omega)) ?_)
      obtain ⟨chec, h4, hsh⟩ := Option.bind_eq_some_iff.1 hsh
      have h4k := c_schema_Type_check N e chec h4
      rw [← hX.P] at h4k
      refine .inl (vcall_pure _ (by rw [hX.P]; exact is_schema_Type_check.enters) h4k (fun H => (by simp [El2, El3, El4, Ev, El, Eb, Et, h1, h2, h3a, h3b, h3c, h3d])) ?_)
      refine run_go 1000 _ _ _ _ ?_
      simp only [Erun, Ek, Ev, El, Ea, Eu, hX.res, hX.Q, List.getElem?_cons_zero, List.getElem?_cons_succ, seval, Et, h1, h2, h3a, h3b, h3c, h3d]
      repeat (with_reducible refine And.intro (by first | assumption | omega | (simp only [i64in] at *; omega)) ?_)
      by_cases h5 : (chec != 0) = true
      · rw [if_pos h5] at hsh
        simp only [Erun, Ek, Ev, El, Ea, Eu, hX.res, hX.Q, List.getElem?_cons_zero, List.getElem?_cons_succ, seval, Et, h1, h2, h3a, h3b, h3c, h3d, h5]
        repeat (with_reducible refine And.intro (by first | assumption | omega | (simp only [i64in] at *; omega)) ?_)
        obtain rfl := Option.some.inj hsh
        refine post_give [] ?_
        simp [El2, El3, El4, Ev, El, Eb, Et, h1, h2, h3a, h3b, h3c, h3d, h5]
      · rw [if_neg h5] at hsh; replace h5 := neg_b h5
        obtain ⟨h6, hsh⟩ := guard_some hsh
        simp only [Erun, Ek, Ev, El, Ea, Eu, hX.res, hX.Q, List.getElem?_cons_zero, List.getElem?_cons_succ, seval, Et, h1, h2, h3a, h3b, h3c, h3d, h5, h6]
        repeat (with_reducible refine And.intro (by first | assumption | omega | (simp only [i64in] at *; omega)) ?_)
        obtain ⟨find, h7, hsh⟩ := Option.bind_eq_some_iff.1 hsh
        have h7k := c_schema_Find N (List.take (Int.toNat x) l) e.Name find h7
        rw [← hX.P] at h7k
        refine .inl (vcall_pure _ (by rw [hX.P]; exact is_schema_Find.enters) h7k (fun H => (by simp [El2, El3, El4, Ev, El, Eb, Et, h1, h2, h3a, h3b, h3c, h3d, h5, h6])) ?_)
        refine run_go 1000 _ _ _ _ ?_
        simp only [Erun, Ek, Ev, El, Ea, Eu, hX.res, hX.Q, List.getElem?_cons_zero, List.getElem?_cons_succ, seval, Et, h1, h2, h3a, h3b, h3c, h3d, h5, h6]
        repeat (with_reducible refine And.intro (by first | assumption | omega | (simp only [i64in] at *; omega)) ?_)
        by_cases h8 : find.2 = true
        · rw [if_pos h8] at hsh
          simp only [Erun, Ek, Ev, El, Ea, Eu, hX.res, hX.Q, List.getElem?_cons_zero, List.getElem?_cons_succ, seval, Et, h1, h2, h3a, h3b, h3c, h3d, h5, h6, h8]
          repeat (with_reducible refine And.intro (by first | assumption | omega | (simp only [i64in] at *; omega)) ?_)
          obtain rfl := Option.some.inj hsh
          refine post_give [] ?_
          simp [El2, El3, El4, Ev, El, Eb, Et, h1, h2, h3a, h3b, h3c, h3d, h5, h6, h8]
        · rw [if_neg h8] at hsh; replace h8 := neg_b h8
          obtain ⟨h9, hsh⟩ := guard_some hsh
          simp only [Erun, Ek, Ev, El, Ea, Eu, hX.res, hX.Q, List.getElem?_cons_zero, List.getElem?_cons_succ, seval, Et, h1, h2, h3a, h3b, h3c, h3d, h5, h6, h8, h9]
          repeat (with_reducible refine And.intro (by first | assumption | omega | (simp only [i64in] at *; omega)) ?_)
          exact go_lessG hX [] [] [] _ _ (by rfl) (by rfl) (by simp [El2, El3, El4, Ev, El, Eb, Et, h1, h2, h3a, h3b, h3c, h3d, h5, h6, h8, h9]) (by simp [El2, El3, El4, Ev, El, Eb, Et, h1, h2, h3a, h3b, h3c, h3d, h5, h6, h8, h9]) (by rfl) (by rfl) (by simp [El2, El3, El4, Ev, El, Eb, Et, h1, h2, h3a, h3b, h3c, h3d, h5, h6, h8, h9]) (ih1 (x + 1) hsh)
    · rw [if_neg h2] at hsh; replace h2 := neg_b h2
      simp only [Erun, Ek, Ev, El, Ea, Eu, hX.res, hX.Q, List.getElem?_cons_zero, List.getElem?_cons_succ, seval, Et, h1, h2]
      repeat (with_reducible refine And.intro (by first | assumption | omega | (simp only [i64in] at *; omega)) ?_)
      obtain rfl := Option.some.inj hsh
      refine post_give [] ?_
      simp [El2, El3, El4, Ev, El, Eb, Et, h1, h2]
end Go.Proofs.YtfblfapkpieckaaDoor.W
