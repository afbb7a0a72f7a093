/- The code, and what each function of it is walked to. No premise beyond what each theorem says. -/
import Derived.Test.YtfblfapkpieckaaDoorWG2
set_option linter.all false
set_option linter.unusedSimpArgs false
set_option linter.unusedVariables false
namespace Go.Proofs.YtfblfapkpieckaaDoor.W
open Go
open Go.Proofs.Tryd
set_option linter.unusedSimpArgs false
set_option linter.unusedVariables false
set_option maxHeartbeats 8000000 in
theorem c_gate_Same (N : Nat) (a : gate_Gate) (b : gate_Gate) (r : Bool) (hsh : s_gate_Same N a b = some r) : CRes prog 24 [gate_Gate.av a, gate_Gate.av b] .nil (.ret (.v (.bool r))) .nil := by
  refine is_gate_Same.run hm 1000 _ rfl fun X hX => ?_
  simp only [List.length_cons, List.length_nil, List.replicate, Nat.reduceAdd, Nat.reduceSub, El, Et]
  rw [s_gate_Same] at hsh
  simp only [Erun, Ek, Ev, El, Ea, Eu, hX.res, hX.Q, List.getElem?_cons_zero, List.getElem?_cons_succ, seval, Et]
  repeat (with_reducible refine And.intro (by first | assumption | omega | (simp only [i64in] at *; omega)) ?_)
  by_cases h1 : ((List.length a.L : Int) != (List.length b.L : Int)) = true
  · rw [if_pos h1] at hsh
    simp only [Erun, Ek, Ev, El, Ea, Eu, hX.res, hX.Q, List.getElem?_cons_zero, List.getElem?_cons_succ, seval, Et, h1]
    repeat (with_reducible refine And.intro (by first | assumption | omega | (simp only [i64in] at *; omega)) ?_)
    obtain rfl := Option.some.inj hsh
    refine post_give [] ?_
    simp [El2, El3, El4, Ev, El, Eb, Et, h1]
  · rw [if_neg h1] at hsh; replace h1 := neg_b h1
    simp only [Erun, Ek, Ev, El, Ea, Eu, hX.res, hX.Q, List.getElem?_cons_zero, List.getElem?_cons_succ, seval, Et, h1]
    repeat (with_reducible refine And.intro (by first | assumption | omega | (simp only [i64in] at *; omega)) ?_)
    obtain ⟨same, h2, hsh⟩ := Option.bind_eq_some_iff.1 hsh
    have h2k := c_schema_Same N a.Types b.Types same h2
    rw [← hX.P] at h2k
    refine .inl (vcall_pure _ (by rw [hX.P]; exact is_schema_Same.enters) h2k (fun H => (by simp [El2, El3, El4, Ev, El, Eb, Et, h1])) ?_)
    refine run_go 1000 _ _ _ _ ?_
    simp only [Erun, Ek, Ev, El, Ea, Eu, hX.res, hX.Q, List.getElem?_cons_zero, List.getElem?_cons_succ, seval, Et, h1]
    repeat (with_reducible refine And.intro (by first | assumption | omega | (simp only [i64in] at *; omega)) ?_)
    by_cases h3 : same = true
    · rw [if_pos h3] at hsh
      simp only [Erun, Ek, Ev, El, Ea, Eu, hX.res, hX.Q, List.getElem?_cons_zero, List.getElem?_cons_succ, seval, Et, h1, h3]
      repeat (with_reducible refine And.intro (by first | assumption | omega | (simp only [i64in] at *; omega)) ?_)
      refine go_lessG hX [] [1] [] _ _ (by rfl) (by rfl) (by simp [El2, El3, El4, Ev, El, Eb, Et, h1, h3]) (by simp [El2, El3, El4, Ev, El, Eb, Et, h1, h3]) (by rfl) (by rfl) (by simp [El2, El3, El4, Ev, El, Eb, Et, h1, h3]) (go_loop1 (fun (x : Int) => ([.any, .any, .any, .ptr 0 0, .any, .any, .any, .any, .any, .any, .any, .any, .any, .any, .any, .any, .any, .any, .any, .any, .any, .any, .any, .sl 3 (List.map gate_Source.av a.L), .v (.int .i64 (List.length a.L : Int)), .v (.int .i64 x)] ++ List.replicate 12 .any)) (fun (x : Int) => ⟨[[.sl 2 (List.map schema_Type.av b.Types), .sl 3 (List.map gate_Source.av b.L)]], []⟩) 1000 (fun next1 ih1 x hsh => ?_) N 0 hsh)
      simp only [List.replicate, El] at ih1 ⊢
      rw [s_gate_Same_1] at hsh
      simp only [Erun, Ek, Ev, El, Ea, Eu, hX.res, hX.Q, List.getElem?_cons_zero, List.getElem?_cons_succ, seval, Et, h1, h3]
      repeat (with_reducible refine And.intro (by first | assumption | omega | (simp only [i64in] at *; omega)) ?_)
      by_cases h4 : (decide (x < (List.length a.L : Int))) = true
      · rw [if_pos h4] at hsh
        obtain ⟨e, h5x, hsh⟩ := Option.bind_eq_some_iff.1 hsh
        obtain ⟨h5a, h5b, h5c, h5d⟩ := ix_some h5x
        obtain ⟨e2, h6x, hsh⟩ := Option.bind_eq_some_iff.1 hsh
        obtain ⟨h6a, h6b, h6c, h6d⟩ := ix_some h6x
        simp only [Erun, Ek, Ev, El, Ea, Eu, hX.res, hX.Q, List.getElem?_cons_zero, List.getElem?_cons_succ, seval, Et, h1, h3, h4, h5a, h5b, h5c, h5d, h6a, h6b, h6c, h6d]
        repeat (with_reducible refine And.intro (by first | assumption | omega | (simp only [i64in] at *; omega)) ?_)
        by_cases h7 : ((e.Front == e2.Front) && ((e.Last == e2.Last) && (e.Closed == e2.Closed))) = true
        · rw [if_pos h7] at hsh
          obtain ⟨h8, hsh⟩ := guard_some hsh
          simp only [Erun, Ek, Ev, El, Ea, Eu, hX.res, hX.Q, List.getElem?_cons_zero, List.getElem?_cons_succ, seval, Et, h1, h3, h4, h5a, h5b, h5c, h5d, h6a, h6b, h6c, h6d, h7, h8]
          repeat (with_reducible refine And.intro (by first | assumption | omega | (simp only [i64in] at *; omega)) ?_)
          exact go_lessG hX [] [0] [] _ _ (by rfl) (by rfl) (by simp [El2, El3, El4, Ev, El, Eb, Et, h1, h3, h4, h5a, h5b, h5c, h5d, h6a, h6b, h6c, h6d, h7, h8]) (by simp [El2, El3, El4, Ev, El, Eb, Et, h1, h3, h4, h5a, h5b, h5c, h5d, h6a, h6b, h6c, h6d, h7, h8]) (by rfl) (by rfl) (by simp [El2, El3, El4, Ev, El, Eb, Et, h1, h3, h4, h5a, h5b, h5c, h5d, h6a, h6b, h6c, h6d, h7, h8]) (ih1 (x + 1) hsh)
        · rw [if_neg h7] at hsh; replace h7 := neg_b h7
          simp only [Erun, Ek, Ev, El, Ea, Eu, hX.res, hX.Q, List.getElem?_cons_zero, List.getElem?_cons_succ, seval, Et, h1, h3, h4, h5a, h5b, h5c, h5d, h6a, h6b, h6c, h6d, h7]
          repeat (with_reducible refine And.intro (by first | assumption | omega | (simp only [i64in] at *; omega)) ?_)
          obtain rfl := Option.some.inj hsh
          refine post_give [] ?_
          simp [El2, El3, El4, Ev, El, Eb, Et, h1, h3, h4, h5a, h5b, h5c, h5d, h6a, h6b, h6c, h6d, h7]
      · rw [if_neg h4] at hsh; replace h4 := neg_b h4
        simp only [Erun, Ek, Ev, El, Ea, Eu, hX.res, hX.Q, List.getElem?_cons_zero, List.getElem?_cons_succ, seval, Et, h1, h3, h4]
        repeat (with_reducible refine And.intro (by first | assumption | omega | (simp only [i64in] at *; omega)) ?_)
        obtain rfl := Option.some.inj hsh
        refine post_give [] ?_
        simp [El2, El3, El4, Ev, El, Eb, Et, h1, h3, h4]
    · rw [if_neg h3] at hsh; replace h3 := neg_b h3
      simp only [Erun, Ek, Ev, El, Ea, Eu, hX.res, hX.Q, List.getElem?_cons_zero, List.getElem?_cons_succ, seval, Et, h1, h3]
      repeat (with_reducible refine And.intro (by first | assumption | omega | (simp only [i64in] at *; omega)) ?_)
      obtain rfl := Option.some.inj hsh
      refine post_give [] ?_
      simp [El2, El3, El4, Ev, El, Eb, Et, h1, h3]
end Go.Proofs.YtfblfapkpieckaaDoor.W
namespace Go.Proofs.YtfblfapkpieckaaDoor.W
open Go
open Go.Proofs.Tryd
set_option linter.unusedSimpArgs false
set_option linter.unusedVariables false
set_option maxHeartbeats 8000000 in
theorem c_ref06_Fits (N : Nat) (t : schema_Type) (vals : List value_Value) (r : Int) (hsh : s_ref06_Fits N t vals = some r) : CRes prog 53 [schema_Type.av t, .sl 4 (List.map value_Value.av vals)] .nil (.ret (.v (.int .i64 r))) .nil := by
  refine is_ref06_Fits.run hm 1000 _ rfl fun X hX => ?_
  simp only [List.length_cons, List.length_nil, List.replicate, Nat.reduceAdd, Nat.reduceSub, El, Et]
  rw [s_ref06_Fits] at hsh
  simp only [Erun, Ek, Ev, El, Ea, Eu, hX.res, hX.Q, List.getElem?_cons_zero, List.getElem?_cons_succ, seval, Et]
  repeat (with_reducible refine And.intro (by first | assumption | omega | (simp only [i64in] at *; omega)) ?_)
  by_cases h1 : ((List.length vals : Int) != (List.length t.Fields : Int)) = true
  · rw [if_pos h1] at hsh
    simp only [Erun, Ek, Ev, El, Ea, Eu, hX.res, hX.Q, List.getElem?_cons_zero, List.getElem?_cons_succ, seval, Et, h1]
    repeat (with_reducible refine And.intro (by first | assumption | omega | (simp only [i64in] at *; omega)) ?_)
    obtain rfl := Option.some.inj hsh
    refine post_give [] ?_
    simp [El2, El3, El4, Ev, El, Eb, Et, h1]
  · rw [if_neg h1] at hsh; replace h1 := neg_b h1
    simp only [Erun, Ek, Ev, El, Ea, Eu, hX.res, hX.Q, List.getElem?_cons_zero, List.getElem?_cons_succ, seval, Et, h1]
    repeat (with_reducible refine And.intro (by first | assumption | omega | (simp only [i64in] at *; omega)) ?_)
    refine go_lessG hX [] [0] [] _ _ (by rfl) (by rfl) (by simp [El2, El3, El4, Ev, El, Eb, Et, h1]) (by simp [El2, El3, El4, Ev, El, Eb, Et, h1]) (by rfl) (by rfl) (by simp [El2, El3, El4, Ev, El, Eb, Et, h1]) (go_loop1 (fun (i : Int) => ([.any, .sl 4 (List.map value_Value.av vals), .ptr 0 0, .any, .any, .v (.int .i64 i)] ++ List.replicate 33 .any)) (fun (i : Int) => ⟨[[.v (.string (bs t.Name)), .sl 2 (List.map schema_Field.av t.Fields)]], []⟩) 1000 (fun next1 ih1 i hsh => ?_) N 0 hsh)
    simp only [List.replicate, El] at ih1 ⊢
    rw [s_ref06_Fits_1] at hsh
    simp only [Erun, Ek, Ev, El, Ea, Eu, hX.res, hX.Q, List.getElem?_cons_zero, List.getElem?_cons_succ, seval, Et, h1]
    repeat (with_reducible refine And.intro (by first | assumption | omega | (simp only [i64in] at *; omega)) ?_)
    by_cases h2 : (decide (i < (List.length vals : Int))) = true
    · rw [if_pos h2] at hsh
      obtain ⟨e, h3x, hsh⟩ := Option.bind_eq_some_iff.1 hsh
      obtain ⟨h3a, h3b, h3c, h3d⟩ := ix_some h3x
      simp only [Erun, Ek, Ev, El, Ea, Eu, hX.res, hX.Q, List.getElem?_cons_zero, List.getElem?_cons_succ, seval, Et, h1, h2, h3a, h3b, h3c, h3d]
      repeat (with_reducible refine And.intro (by first | assumption | omega | (simp only [i64in] at *; omega)) ?_)
      obtain ⟨chec, h4, hsh⟩ := Option.bind_eq_some_iff.1 hsh
      have h4k := c_ref04_Check N e chec h4
      rw [← hX.P] at h4k
      refine .inl (vcall_pure _ (by rw [hX.P]; exact is_ref04_Check.enters) h4k (fun H => (by simp [El2, El3, El4, Ev, El, Eb, Et, h1, h2, h3a, h3b, h3c, h3d])) ?_)
      refine run_go 1000 _ _ _ _ ?_
      simp only [Erun, Ek, Ev, El, Ea, Eu, hX.res, hX.Q, List.getElem?_cons_zero, List.getElem?_cons_succ, seval, Et, h1, h2, h3a, h3b, h3c, h3d]
      repeat (with_reducible refine And.intro (by first | assumption | omega | (simp only [i64in] at *; omega)) ?_)
      by_cases h5 : (chec != 0) = true
      · rw [if_pos h5] at hsh
        simp only [Erun, Ek, Ev, El, Ea, Eu, hX.res, hX.Q, List.getElem?_cons_zero, List.getElem?_cons_succ, seval, Et, h1, h2, h3a, h3b, h3c, h3d, h5]
        repeat (with_reducible refine And.intro (by first | assumption | omega | (simp only [i64in] at *; omega)) ?_)
        obtain rfl := Option.some.inj hsh
        refine post_give [] ?_
        simp [El2, El3, El4, Ev, El, Eb, Et, h1, h2, h3a, h3b, h3c, h3d, h5]
      · rw [if_neg h5] at hsh; replace h5 := neg_b h5
        obtain ⟨e2, h6x, hsh⟩ := Option.bind_eq_some_iff.1 hsh
        obtain ⟨h6a, h6b, h6c, h6d⟩ := ix_some h6x
        simp only [Erun, Ek, Ev, El, Ea, Eu, hX.res, hX.Q, List.getElem?_cons_zero, List.getElem?_cons_succ, seval, Et, h1, h2, h3a, h3b, h3c, h3d, h5, h6a, h6b, h6c, h6d]
        repeat (with_reducible refine And.intro (by first | assumption | omega | (simp only [i64in] at *; omega)) ?_)
        by_cases h7 : (e.Kind != e2.Kind) = true
        · rw [if_pos h7] at hsh
          simp only [Erun, Ek, Ev, El, Ea, Eu, hX.res, hX.Q, List.getElem?_cons_zero, List.getElem?_cons_succ, seval, Et, h1, h2, h3a, h3b, h3c, h3d, h5, h6a, h6b, h6c, h6d, h7]
          repeat (with_reducible refine And.intro (by first | assumption | omega | (simp only [i64in] at *; omega)) ?_)
          obtain rfl := Option.some.inj hsh
          refine post_give [] ?_
          simp [El2, El3, El4, Ev, El, Eb, Et, h1, h2, h3a, h3b, h3c, h3d, h5, h6a, h6b, h6c, h6d, h7]
        · rw [if_neg h7] at hsh; replace h7 := neg_b h7
          obtain ⟨h8, hsh⟩ := guard_some hsh
          simp only [Erun, Ek, Ev, El, Ea, Eu, hX.res, hX.Q, List.getElem?_cons_zero, List.getElem?_cons_succ, seval, Et, h1, h2, h3a, h3b, h3c, h3d, h5, h6a, h6b, h6c, h6d, h7, h8]
          repeat (with_reducible refine And.intro (by first | assumption | omega | (simp only [i64in] at *; omega)) ?_)
          exact go_lessG hX [] [0] [] _ _ (by rfl) (by rfl) (by simp [El2, El3, El4, Ev, El, Eb, Et, h1, h2, h3a, h3b, h3c, h3d, h5, h6a, h6b, h6c, h6d, h7, h8]) (by simp [El2, El3, El4, Ev, El, Eb, Et, h1, h2, h3a, h3b, h3c, h3d, h5, h6a, h6b, h6c, h6d, h7, h8]) (by rfl) (by rfl) (by simp [El2, El3, El4, Ev, El, Eb, Et, h1, h2, h3a, h3b, h3c, h3d, h5, h6a, h6b, h6c, h6d, h7, h8]) (ih1 (i + 1) hsh)
    · rw [if_neg h2] at hsh; replace h2 := neg_b h2
      simp only [Erun, Ek, Ev, El, Ea, Eu, hX.res, hX.Q, List.getElem?_cons_zero, List.getElem?_cons_succ, seval, Et, h1, h2]
      repeat (with_reducible refine And.intro (by first | assumption | omega | (simp only [i64in] at *; omega)) ?_)
      obtain rfl := Option.some.inj hsh
      refine post_give [] ?_
      simp [El2, El3, El4, Ev, El, Eb, Et, h1, h2]
end Go.Proofs.YtfblfapkpieckaaDoor.W
namespace Go.Proofs.YtfblfapkpieckaaDoor.W
open Go
open Go.Proofs.Tryd
set_option linter.unusedSimpArgs false
set_option linter.unusedVariables false
set_option maxHeartbeats 8000000 in
theorem c_ref32_New (N : Nat) (types : List schema_Type) (sources : Int) (r : gate_Gate × Int) (hsh : s_ref32_New N types sources = some r) : CRes prog 9 [.sl 2 (List.map schema_Type.av types), .v (.int .i64 sources)] .nil (.ret (.tup [gate_Gate.av r.1, .v (.int .i64 r.2)])) .nil := by
  refine is_ref32_New.run hm 1000 _ rfl fun X hX => ?_
  simp only [List.length_cons, List.length_nil, List.replicate, Nat.reduceAdd, Nat.reduceSub, El, Et]
  rw [s_ref32_New] at hsh
  simp only [Erun, Ek, Ev, El, Ea, Eu, hX.res, hX.Q, List.getElem?_cons_zero, List.getElem?_cons_succ, seval, Et]
  repeat (with_reducible refine And.intro (by first | assumption | omega | (simp only [i64in] at *; omega)) ?_)
  obtain ⟨chec, h1, hsh⟩ := Option.bind_eq_some_iff.1 hsh
  have h1k := c_ref06_Check N types chec h1
  rw [← hX.P] at h1k
  refine .inl (vcall_pure _ (by rw [hX.P]; exact is_ref06_Check.enters) h1k (fun H => (by simp [El2, El3, El4, Ev, El, Eb, Et])) ?_)
  refine run_go 1000 _ _ _ _ ?_
  simp only [Erun, Ek, Ev, El, Ea, Eu, hX.res, hX.Q, List.getElem?_cons_zero, List.getElem?_cons_succ, seval, Et]
  repeat (with_reducible refine And.intro (by first | assumption | omega | (simp only [i64in] at *; omega)) ?_)
  by_cases h2 : (chec != 0) = true
  · rw [if_pos h2] at hsh
    simp only [Erun, Ek, Ev, El, Ea, Eu, hX.res, hX.Q, List.getElem?_cons_zero, List.getElem?_cons_succ, seval, Et, h2]
    repeat (with_reducible refine And.intro (by first | assumption | omega | (simp only [i64in] at *; omega)) ?_)
    obtain rfl := Option.some.inj hsh
    refine post_give [] ?_
    simp [El2, El3, El4, Ev, El, Eb, Et, h2]
  · rw [if_neg h2] at hsh; replace h2 := neg_b h2
    simp only [Erun, Ek, Ev, El, Ea, Eu, hX.res, hX.Q, List.getElem?_cons_zero, List.getElem?_cons_succ, seval, Et, h2]
    repeat (with_reducible refine And.intro (by first | assumption | omega | (simp only [i64in] at *; omega)) ?_)
    by_cases h3 : (decide (sources < 1)) = true
    · rw [if_pos h3] at hsh
      simp only [Erun, Ek, Ev, El, Ea, Eu, hX.res, hX.Q, List.getElem?_cons_zero, List.getElem?_cons_succ, seval, Et, h2, h3]
      repeat (with_reducible refine And.intro (by first | assumption | omega | (simp only [i64in] at *; omega)) ?_)
      obtain rfl := Option.some.inj hsh
      refine post_give [] ?_
      simp [El2, El3, El4, Ev, El, Eb, Et, h2, h3]
    · rw [if_neg h3] at hsh; replace h3 := neg_b h3
      simp only [Erun, Ek, Ev, El, Ea, Eu, hX.res, hX.Q, List.getElem?_cons_zero, List.getElem?_cons_succ, seval, Et, h2, h3]
      repeat (with_reducible refine And.intro (by first | assumption | omega | (simp only [i64in] at *; omega)) ?_)
      by_cases h4 : (decide (sources > 16)) = true
      · rw [if_pos h4] at hsh
        simp only [Erun, Ek, Ev, El, Ea, Eu, hX.res, hX.Q, List.getElem?_cons_zero, List.getElem?_cons_succ, seval, Et, h2, h3, h4]
        repeat (with_reducible refine And.intro (by first | assumption | omega | (simp only [i64in] at *; omega)) ?_)
        obtain rfl := Option.some.inj hsh
        refine post_give [] ?_
        simp [El2, El3, El4, Ev, El, Eb, Et, h2, h3, h4]
      · rw [if_neg h4] at hsh; replace h4 := neg_b h4
        simp only [Erun, Ek, Ev, El, Ea, Eu, hX.res, hX.Q, List.getElem?_cons_zero, List.getElem?_cons_succ, seval, Et, h2, h3, h4]
        repeat (with_reducible refine And.intro (by first | assumption | omega | (simp only [i64in] at *; omega)) ?_)
        refine go_empb 1 1 3 trivial (by simp) (by simp [List.getD]) rfl ?_
        simp only [El, Ea]
        refine go_lessG hX [] [0, 1] [0] _ _ (by rfl) (by rfl) (by simp [El2, El3, El4, Ev, El, Eb, Et, h2, h3, h4]) (by simp [El2, El3, El4, Ev, El, Eb, Et, h2, h3, h4]) (by rfl) (by rfl) (by simp [El2, El3, El4, Ev, El, Eb, Et, h2, h3, h4]) (go_loop2 (fun (i : Int) (ys : List gate_Source) => ([.any, .v (.int .i64 sources), .any, .any, .ptr 0 0, .any, .ptr 1 0, .v (.int .i64 i)] ++ List.replicate 26 .any)) (fun (i : Int) (ys : List gate_Source) => ⟨[[.emp, .emp], [.sl 2 (List.map schema_Type.av types), .own 0]], [.live 3 (List.map gate_Source.av ys)]⟩) 1000 (fun next1 ih1 i ys hsh => ?_) N 0 [] hsh)
        simp only [List.replicate, El] at ih1 ⊢
        rw [s_ref32_New_1] at hsh
        simp only [Erun, Ek, Ev, El, Ea, Eu, hX.res, hX.Q, List.getElem?_cons_zero, List.getElem?_cons_succ, seval, Et, h2, h3, h4]
        repeat (with_reducible refine And.intro (by first | assumption | omega | (simp only [i64in] at *; omega)) ?_)
        by_cases h5 : (decide (i < sources)) = true
        · rw [if_pos h5] at hsh
          obtain ⟨h6, hsh⟩ := guard_some hsh
          have g7 : (List.map gate_Source.av ys) ++ ([.agg [.v (.int .i64 0), .v (.int .i64 (-1)), .v (.bool false)]] : List AV) = (List.map gate_Source.av (ys ++ [(gate_Source.mk 0 (-1) false)])) := by simp [Et]
          obtain ⟨h8, hsh⟩ := guard_some hsh
          simp only [Erun, Ek, Ev, El, Ea, Eu, hX.res, hX.Q, List.getElem?_cons_zero, List.getElem?_cons_succ, seval, Et, h2, h3, h4, h5, h6, g7, h8]
          repeat (with_reducible refine And.intro (by first | assumption | omega | (simp only [i64in] at *; omega)) ?_)
          exact go_lessG hX [] [0, 1] [2] _ _ (by rfl) (by rfl) (by simp [El2, El3, El4, Ev, El, Eb, Et, h2, h3, h4, h5, h6, h8]) (by simp [El2, El3, El4, Ev, El, Eb, Et, h2, h3, h4, h5, h6, h8]) (by rfl) (by rfl) (by simp [El2, El3, El4, Ev, El, Eb, Et, h2, h3, h4, h5, h6, h8]) (ih1 (i + 1) (ys ++ [(gate_Source.mk 0 (-1) false)]) hsh)
        · rw [if_neg h5] at hsh; replace h5 := neg_b h5
          simp only [Erun, Ek, Ev, El, Ea, Eu, hX.res, hX.Q, List.getElem?_cons_zero, List.getElem?_cons_succ, seval, Et, h2, h3, h4, h5]
          repeat (with_reducible refine And.intro (by first | assumption | omega | (simp only [i64in] at *; omega)) ?_)
          obtain rfl := Option.some.inj hsh
          refine post_give [0] ?_
          simp [El2, El3, El4, Ev, El, Eb, Et, h2, h3, h4, h5]
set_option maxHeartbeats 8000000 in
theorem c_strings_Split_v724 (N : Nat) (s : List UInt8) (r : List (List UInt8)) (hsh : s_strings_Split_v724 N s = some r) : CRes prog 45 [.v (.string (bs s)), .v (.string (bs [32]))] .nil (.ret (.sl 1 (List.map sav r))) .nil := by
  refine is_strings_Split.run hm 1000 _ rfl fun X hX => ?_
  simp only [List.length_cons, List.length_nil, List.replicate, Nat.reduceAdd, Nat.reduceSub, El, Et]
  rw [s_strings_Split_v724] at hsh
  simp only [Erun, Ek, Ev, El, Ea, Eu, hX.res, hX.Q, List.getElem?_cons_zero, List.getElem?_cons_succ, seval, Et]
  repeat (with_reducible refine And.intro (by first | assumption | omega | (simp only [i64in] at *; omega)) ?_)
  obtain ⟨gens, h1, hsh⟩ := Option.bind_eq_some_iff.1 hsh
  have h1k := c_strings_genSplit_v997 N s 0 (-1) gens h1
  rw [← hX.P] at h1k
  refine .inl (vcall_pure _ (by rw [hX.P]; exact is_strings_genSplit.enters) h1k (fun H => (by simp [El2, El3, El4, Ev, El, Eb, Et])) ?_)
  refine run_go 1000 _ _ _ _ ?_
  simp only [Erun, Ek, Ev, El, Ea, Eu, hX.res, hX.Q, List.getElem?_cons_zero, List.getElem?_cons_succ, seval, Et]
  repeat (with_reducible refine And.intro (by first | assumption | omega | (simp only [i64in] at *; omega)) ?_)
  obtain rfl := Option.some.inj hsh
  refine post_give [] ?_
  simp [El2, El3, El4, Ev, El, Eb, Et]
end Go.Proofs.YtfblfapkpieckaaDoor.W
namespace Go.Proofs.YtfblfapkpieckaaDoor.W
open Go
open Go.Proofs.Tryd
set_option linter.unusedSimpArgs false
set_option linter.unusedVariables false
set_option maxHeartbeats 8000000 in
theorem c_schema_Parse (N : Nat) (s : List UInt8) (r : List schema_Type × Int) (hsh : s_schema_Parse N s = some r) : CRes prog 26 [.v (.string (bs s))] .nil (.ret (.tup [.sl 2 (List.map schema_Type.av r.1), .v (.int .i64 r.2)])) .nil := by
  refine is_schema_Parse.run hm 1000 _ rfl fun X hX => ?_
  simp only [List.length_cons, List.length_nil, List.replicate, Nat.reduceAdd, Nat.reduceSub, El, Et]
  rw [s_schema_Parse] at hsh
  simp only [Erun, Ek, Ev, El, Ea, Eu, hX.res, hX.Q, List.getElem?_cons_zero, List.getElem?_cons_succ, seval, Et]
  repeat (with_reducible refine And.intro (by first | assumption | omega | (simp only [i64in] at *; omega)) ?_)
  refine go_emp 4 2 trivial (by simp) rfl ?_
  simp only [El, Ea]
  refine go_lessG hX [] [] [0] _ _ (by rfl) (by rfl) (by simp [El2, El3, El4, Ev, El, Eb, Et]) (by simp [El2, El3, El4, Ev, El, Eb, Et]) (by rfl) (by rfl) (by simp [El2, El3, El4, Ev, El, Eb, Et]) (go_loop3 (fun (s2 : List UInt8) (whole : Bool) (ys : List schema_Type) => ([.v (.string (bs s2)), .any, .any, .any, .own 0, .v (.bool whole)] ++ List.replicate 71 .any)) (fun (s2 : List UInt8) (whole : Bool) (ys : List schema_Type) => ⟨[], [.live 2 (List.map schema_Type.av ys)]⟩) 1000 (fun next1 ih1 s2 whole ys hsh => ?_) N s true [] hsh)
  simp only [List.replicate, El] at ih1 ⊢
  rw [s_schema_Parse_1] at hsh
  simp only [Erun, Ek, Ev, El, Ea, Eu, hX.res, hX.Q, List.getElem?_cons_zero, List.getElem?_cons_succ, seval, Et]
  repeat (with_reducible refine And.intro (by first | assumption | omega | (simp only [i64in] at *; omega)) ?_)
  by_cases h1 : (s2 == []) = true
  · rw [if_pos h1] at hsh
    simp only [Erun, Ek, Ev, El, Ea, Eu, hX.res, hX.Q, List.getElem?_cons_zero, List.getElem?_cons_succ, seval, Et, h1]
    repeat (with_reducible refine And.intro (by first | assumption | omega | (simp only [i64in] at *; omega)) ?_)
    by_cases h2 : whole = true
    · rw [if_pos h2] at hsh
      simp only [Erun, Ek, Ev, El, Ea, Eu, hX.res, hX.Q, List.getElem?_cons_zero, List.getElem?_cons_succ, seval, Et, h1, h2]
      repeat (with_reducible refine And.intro (by first | assumption | omega | (simp only [i64in] at *; omega)) ?_)
      obtain ⟨chec, h3, hsh⟩ := Option.bind_eq_some_iff.1 hsh
      have h3k := c_schema_Check N ys chec h3
      rw [← hX.P] at h3k
      refine .inl (vcall_lend [0] _ (by rw [hX.P]; exact is_schema_Check.enters) h3k (by simp [El2, El3, El4, Ev, El, Eb, Et, h1, h2]) (by simp [AV.scal, Et]) ?_)
      refine run_go 1000 _ _ _ _ ?_
      simp only [Erun, Ek, Ev, El, Ea, Eu, hX.res, hX.Q, List.getElem?_cons_zero, List.getElem?_cons_succ, seval, Et, h1, h2]
      repeat (with_reducible refine And.intro (by first | assumption | omega | (simp only [i64in] at *; omega)) ?_)
      by_cases h4 : (chec != 0) = true
      · rw [if_pos h4] at hsh
        simp only [Erun, Ek, Ev, El, Ea, Eu, hX.res, hX.Q, List.getElem?_cons_zero, List.getElem?_cons_succ, seval, Et, h1, h2, h4]
        repeat (with_reducible refine And.intro (by first | assumption | omega | (simp only [i64in] at *; omega)) ?_)
        obtain rfl := Option.some.inj hsh
        refine post_give [] ?_
        simp [El2, El3, El4, Ev, El, Eb, Et, h1, h2, h4]
      · rw [if_neg h4] at hsh; replace h4 := neg_b h4
        simp only [Erun, Ek, Ev, El, Ea, Eu, hX.res, hX.Q, List.getElem?_cons_zero, List.getElem?_cons_succ, seval, Et, h1, h2, h4]
        repeat (with_reducible refine And.intro (by first | assumption | omega | (simp only [i64in] at *; omega)) ?_)
        obtain rfl := Option.some.inj hsh
        refine post_give [0] ?_
        simp [El2, El3, El4, Ev, El, Eb, Et, h1, h2, h4]
    · rw [if_neg h2] at hsh; replace h2 := neg_b h2
      simp only [Erun, Ek, Ev, El, Ea, Eu, hX.res, hX.Q, List.getElem?_cons_zero, List.getElem?_cons_succ, seval, Et, h1, h2]
      repeat (with_reducible refine And.intro (by first | assumption | omega | (simp only [i64in] at *; omega)) ?_)
      obtain rfl := Option.some.inj hsh
      refine post_give [] ?_
      simp [El2, El3, El4, Ev, El, Eb, Et, h1, h2]
  · rw [if_neg h1] at hsh; replace h1 := neg_b h1
    simp only [Erun, Ek, Ev, El, Ea, Eu, hX.res, hX.Q, List.getElem?_cons_zero, List.getElem?_cons_succ, seval, Et, h1]
    repeat (with_reducible refine And.intro (by first | assumption | omega | (simp only [i64in] at *; omega)) ?_)
    obtain ⟨cut, h5, hsh⟩ := Option.bind_eq_some_iff.1 hsh
    have h5k := c_strings_Cut_v860 N s2 cut h5
    rw [← hX.P] at h5k
    refine .inl (vcall_pure _ (by rw [hX.P]; exact is_strings_Cut.enters) h5k (fun H => (by simp [El2, El3, El4, Ev, El, Eb, Et, h1])) ?_)
    refine run_go 1000 _ _ _ _ ?_
    simp only [Erun, Ek, Ev, El, Ea, Eu, hX.res, hX.Q, List.getElem?_cons_zero, List.getElem?_cons_succ, seval, Et, h1]
    repeat (with_reducible refine And.intro (by first | assumption | omega | (simp only [i64in] at *; omega)) ?_)
    obtain ⟨spli, h6, hsh⟩ := Option.bind_eq_some_iff.1 hsh
    have h6k := c_strings_Split_v724 N cut.1 spli h6
    rw [← hX.P] at h6k
    refine .inl (vcall_pure _ (by rw [hX.P]; exact is_strings_Split.enters) h6k (fun H => (by simp [El2, El3, El4, Ev, El, Eb, Et, h1])) ?_)
    refine run_go 1000 _ _ _ _ ?_
    obtain ⟨e, h7x, hsh⟩ := Option.bind_eq_some_iff.1 hsh
    obtain ⟨h7a, h7b, h7c, h7d⟩ := ix_some h7x
    simp only [Int.reduceToNat] at h7c h7d
    obtain ⟨h8, hsh⟩ := guard_some hsh
    simp only [Erun, Ek, Ev, El, Ea, Eu, hX.res, hX.Q, List.getElem?_cons_zero, List.getElem?_cons_succ, seval, Et, h1, h7a, h7b, h7c, h7d, h8]
    repeat (with_reducible refine And.intro (by first | assumption | omega | (simp only [i64in] at *; omega)) ?_)
    refine go_empb 0 1 2 trivial (by simp) (by simp [List.getD]) rfl ?_
    simp only [El, Ea]
    refine go_lessG hX [] [0] [0, 1] _ _ (by rfl) (by rfl) (by simp [El2, El3, El4, Ev, El, Eb, Et, h1, h7a, h7b, h7c, h7d, h8]) (by simp [El2, El3, El4, Ev, El, Eb, Et, h1, h7a, h7b, h7c, h7d, h8]) (by rfl) (by rfl) (by simp [El2, El3, El4, Ev, El, Eb, Et, h1, h7a, h7b, h7c, h7d, h8]) (go_loop3 (fun (whole2 : Bool) (x : Int) (ys2 : List schema_Field) => ([.any, .any, .any, .any, .own 0, .v (.bool whole2), .any, .v (.string (bs cut.2.1)), .v (.bool cut.2.2), .any, .ptr 0 0, .any, .any, .any, .any, .any, .any, .any, .any, .any, .any, .any, .any, .any, .any, .any, .any, .any, .any, .any, .any, .any, .any, .sl 1 (List.map sav (List.drop 1 spli)), .v (.int .i64 (List.length (List.drop 1 spli) : Int)), .v (.int .i64 x)] ++ List.replicate 41 .any)) (fun (whole2 : Bool) (x : Int) (ys2 : List schema_Field) => ⟨[[.v (.string (bs e)), .own 1]], [.live 2 (List.map schema_Type.av ys), .live 2 (List.map schema_Field.av ys2)]⟩) 1000 (fun next2 ih2 whole2 x ys2 hsh => ?_) N whole 0 [] hsh)
    simp only [List.replicate, El] at ih2 ⊢
    rw [s_schema_Parse_2] at hsh
    simp only [Erun, Ek, Ev, El, Ea, Eu, hX.res, hX.Q, List.getElem?_cons_zero, List.getElem?_cons_succ, seval, Et, h1, h7a, h7b, h7c, h7d, h8]
    repeat (with_reducible refine And.intro (by first | assumption | omega | (simp only [i64in] at *; omega)) ?_)
    by_cases h9 : (decide (x < (List.length (List.drop 1 spli) : Int))) = true
    · rw [if_pos h9] at hsh
      obtain ⟨e2, h10x, hsh⟩ := Option.bind_eq_some_iff.1 hsh
      obtain ⟨h10a, h10b, h10c, h10d⟩ := ix_some h10x
      simp only [Erun, Ek, Ev, El, Ea, Eu, hX.res, hX.Q, List.getElem?_cons_zero, List.getElem?_cons_succ, seval, Et, h1, h7a, h7b, h7c, h7d, h8, h9, h10a, h10b, h10c, h10d]
      repeat (with_reducible refine And.intro (by first | assumption | omega | (simp only [i64in] at *; omega)) ?_)
      obtain ⟨cut2, h11, hsh⟩ := Option.bind_eq_some_iff.1 hsh
      have h11k := c_strings_Cut_v682 N e2 cut2 h11
      rw [← hX.P] at h11k
      refine .inl (vcall_pure _ (by rw [hX.P]; exact is_strings_Cut.enters) h11k (fun H => (by simp [El2, El3, El4, Ev, El, Eb, Et, h1, h7a, h7b, h7c, h7d, h8, h9, h10a, h10b, h10c, h10d])) ?_)
      refine run_go 1000 _ _ _ _ ?_
      simp only [Erun, Ek, Ev, El, Ea, Eu, hX.res, hX.Q, List.getElem?_cons_zero, List.getElem?_cons_succ, seval, Et, h1, h7a, h7b, h7c, h7d, h8, h9, h10a, h10b, h10c, h10d]
      repeat (with_reducible refine And.intro (by first | assumption | omega | (simp only [i64in] at *; omega)) ?_)
      obtain ⟨kind, h12, hsh⟩ := Option.bind_eq_some_iff.1 hsh
      have h12k := c_schema_kindOf N cut2.2.1 kind h12
      rw [← hX.P] at h12k
      refine .inl (vcall_pure _ (by rw [hX.P]; exact is_schema_kindOf.enters) h12k (fun H => (by simp [El2, El3, El4, Ev, El, Eb, Et, h1, h7a, h7b, h7c, h7d, h8, h9, h10a, h10b, h10c, h10d])) ?_)
      refine run_go 1000 _ _ _ _ ?_
      simp only [Erun, Ek, Ev, El, Ea, Eu, hX.res, hX.Q, List.getElem?_cons_zero, List.getElem?_cons_succ, seval, Et, h1, h7a, h7b, h7c, h7d, h8, h9, h10a, h10b, h10c, h10d]
      repeat (with_reducible refine And.intro (by first | assumption | omega | (simp only [i64in] at *; omega)) ?_)
      by_cases h13 : cut2.2.2 = true
      · rw [if_pos h13] at hsh
        simp only [Erun, Ek, Ev, El, Ea, Eu, hX.res, hX.Q, List.getElem?_cons_zero, List.getElem?_cons_succ, seval, Et, h1, h7a, h7b, h7c, h7d, h8, h9, h10a, h10b, h10c, h10d, h13]
        repeat (with_reducible refine And.intro (by first | assumption | omega | (simp only [i64in] at *; omega)) ?_)
        by_cases h14 : (kind == 0) = true
        · rw [if_pos h14] at hsh
          simp only [Erun, Ek, Ev, El, Ea, Eu, hX.res, hX.Q, List.getElem?_cons_zero, List.getElem?_cons_succ, seval, Et, h1, h7a, h7b, h7c, h7d, h8, h9, h10a, h10b, h10c, h10d, h13, h14]
          repeat (with_reducible refine And.intro (by first | assumption | omega | (simp only [i64in] at *; omega)) ?_)
          obtain rfl := Option.some.inj hsh
          refine post_give [] ?_
          simp [El2, El3, El4, Ev, El, Eb, Et, h1, h7a, h7b, h7c, h7d, h8, h9, h10a, h10b, h10c, h10d, h13, h14]
        · rw [if_neg h14] at hsh; replace h14 := neg_b h14
          obtain ⟨h15, hsh⟩ := guard_some hsh
          have g16 : (List.map schema_Field.av ys2) ++ ([.agg [.v (.string (bs cut2.1)), .v (.int .u8 kind)]] : List AV) = (List.map schema_Field.av (ys2 ++ [(schema_Field.mk cut2.1 kind)])) := by simp [Et]
          obtain ⟨h17, hsh⟩ := guard_some hsh
          simp only [Erun, Ek, Ev, El, Ea, Eu, hX.res, hX.Q, List.getElem?_cons_zero, List.getElem?_cons_succ, seval, Et, h1, h7a, h7b, h7c, h7d, h8, h9, h10a, h10b, h10c, h10d, h13, h14, h15, g16, h17]
          repeat (with_reducible refine And.intro (by first | assumption | omega | (simp only [i64in] at *; omega)) ?_)
          exact go_lessG hX [] [0] [0, 3] _ _ (by rfl) (by rfl) (by simp [El2, El3, El4, Ev, El, Eb, Et, h1, h7a, h7b, h7c, h7d, h8, h9, h10a, h10b, h10c, h10d, h13, h14, h15, h17]) (by simp [El2, El3, El4, Ev, El, Eb, Et, h1, h7a, h7b, h7c, h7d, h8, h9, h10a, h10b, h10c, h10d, h13, h14, h15, h17]) (by rfl) (by rfl) (by simp [El2, El3, El4, Ev, El, Eb, Et, h1, h7a, h7b, h7c, h7d, h8, h9, h10a, h10b, h10c, h10d, h13, h14, h15, h17]) (ih2 whole2 (x + 1) (ys2 ++ [(schema_Field.mk cut2.1 kind)]) hsh)
      · rw [if_neg h13] at hsh; replace h13 := neg_b h13
        simp only [Erun, Ek, Ev, El, Ea, Eu, hX.res, hX.Q, List.getElem?_cons_zero, List.getElem?_cons_succ, seval, Et, h1, h7a, h7b, h7c, h7d, h8, h9, h10a, h10b, h10c, h10d, h13]
        repeat (with_reducible refine And.intro (by first | assumption | omega | (simp only [i64in] at *; omega)) ?_)
        obtain rfl := Option.some.inj hsh
        refine post_give [] ?_
        simp [El2, El3, El4, Ev, El, Eb, Et, h1, h7a, h7b, h7c, h7d, h8, h9, h10a, h10b, h10c, h10d, h13]
    · rw [if_neg h9] at hsh; replace h9 := neg_b h9
      simp only [Erun, Ek, Ev, El, Ea, Eu, hX.res, hX.Q, List.getElem?_cons_zero, List.getElem?_cons_succ, seval, Et, h1, h7a, h7b, h7c, h7d, h8, h9]
      repeat (with_reducible refine And.intro (by first | assumption | omega | (simp only [i64in] at *; omega)) ?_)
      by_cases h18 : cut.2.2 = true
      · rw [if_pos h18] at hsh
        obtain ⟨h19, hsh⟩ := guard_some hsh
        have g20 : (List.map schema_Type.av ys) ++ ([.agg [.v (.string (bs e)), .sl 2 (List.map schema_Field.av ys2)]] : List AV) = (List.map schema_Type.av (ys ++ [(schema_Type.mk e ys2)])) := by simp [Et]
        simp only [Erun, Ek, Ev, El, Ea, Eu, hX.res, hX.Q, List.getElem?_cons_zero, List.getElem?_cons_succ, seval, Et, h1, h7a, h7b, h7c, h7d, h8, h9, h18, h19, g20]
        repeat (with_reducible refine And.intro (by first | assumption | omega | (simp only [i64in] at *; omega)) ?_)
        exact go_lessG hX [] [] [3] _ _ (by rfl) (by rfl) (by simp [El2, El3, El4, Ev, El, Eb, Et, h1, h7a, h7b, h7c, h7d, h8, h9, h18, h19]) (by simp [El2, El3, El4, Ev, El, Eb, Et, h1, h7a, h7b, h7c, h7d, h8, h9, h18, h19]) (by rfl) (by rfl) (by simp [El2, El3, El4, Ev, El, Eb, Et, h1, h7a, h7b, h7c, h7d, h8, h9, h18, h19]) (ih1 cut.2.1 whole2 (ys ++ [(schema_Type.mk e ys2)]) hsh)
      · rw [if_neg h18] at hsh; replace h18 := neg_b h18
        simp only [Erun, Ek, Ev, El, Ea, Eu, hX.res, hX.Q, List.getElem?_cons_zero, List.getElem?_cons_succ, seval, Et, h1, h7a, h7b, h7c, h7d, h8, h9, h18]
        repeat (with_reducible refine And.intro (by first | assumption | omega | (simp only [i64in] at *; omega)) ?_)
        obtain rfl := Option.some.inj hsh
        refine post_give [] ?_
        simp [El2, El3, El4, Ev, El, Eb, Et, h1, h7a, h7b, h7c, h7d, h8, h9, h18]
end Go.Proofs.YtfblfapkpieckaaDoor.W
namespace Go.Proofs.YtfblfapkpieckaaDoor.W
open Go
open Go.Proofs.Tryd
set_option linter.unusedSimpArgs false
set_option linter.unusedVariables false
set_option maxHeartbeats 8000000 in
theorem c_ref07_Check (N : Nat) (types : List schema_Type) (e : event_Event) (r : Int) (hsh : s_ref07_Check N types e = some r) : CRes prog 36 [.sl 2 (List.map schema_Type.av types), event_Event.av e] .nil (.ret (.v (.int .i64 r))) .nil := by
  refine is_ref07_Check.run hm 1000 _ rfl fun X hX => ?_
  simp only [List.length_cons, List.length_nil, List.replicate, Nat.reduceAdd, Nat.reduceSub, El, Et]
  rw [s_ref07_Check] at hsh
  simp only [Erun, Ek, Ev, El, Ea, Eu, hX.res, hX.Q, List.getElem?_cons_zero, List.getElem?_cons_succ, seval, Et]
  repeat (with_reducible refine And.intro (by first | assumption | omega | (simp only [i64in] at *; omega)) ?_)
  obtain ⟨chec, h1, hsh⟩ := Option.bind_eq_some_iff.1 hsh
  have h1k := c_ref06_Check N types chec h1
  rw [← hX.P] at h1k
  refine .inl (vcall_pure _ (by rw [hX.P]; exact is_ref06_Check.enters) h1k (fun H => (by simp [El2, El3, El4, Ev, El, Eb, Et])) ?_)
  refine run_go 1000 _ _ _ _ ?_
  simp only [Erun, Ek, Ev, El, Ea, Eu, hX.res, hX.Q, List.getElem?_cons_zero, List.getElem?_cons_succ, seval, Et]
  repeat (with_reducible refine And.intro (by first | assumption | omega | (simp only [i64in] at *; omega)) ?_)
  by_cases h2 : (chec != 0) = true
  · rw [if_pos h2] at hsh
    simp only [Erun, Ek, Ev, El, Ea, Eu, hX.res, hX.Q, List.getElem?_cons_zero, List.getElem?_cons_succ, seval, Et, h2]
    repeat (with_reducible refine And.intro (by first | assumption | omega | (simp only [i64in] at *; omega)) ?_)
    obtain rfl := Option.some.inj hsh
    refine post_give [] ?_
    simp [El2, El3, El4, Ev, El, Eb, Et, h2]
  · rw [if_neg h2] at hsh; replace h2 := neg_b h2
    simp only [Erun, Ek, Ev, El, Ea, Eu, hX.res, hX.Q, List.getElem?_cons_zero, List.getElem?_cons_succ, seval, Et, h2]
    repeat (with_reducible refine And.intro (by first | assumption | omega | (simp only [i64in] at *; omega)) ?_)
    by_cases h3 : (decide (e.Time < 0)) = true
    · rw [if_pos h3] at hsh
      simp only [Erun, Ek, Ev, El, Ea, Eu, hX.res, hX.Q, List.getElem?_cons_zero, List.getElem?_cons_succ, seval, Et, h2, h3]
      repeat (with_reducible refine And.intro (by first | assumption | omega | (simp only [i64in] at *; omega)) ?_)
      obtain rfl := Option.some.inj hsh
      refine post_give [] ?_
      simp [El2, El3, El4, Ev, El, Eb, Et, h2, h3]
    · rw [if_neg h3] at hsh; replace h3 := neg_b h3
      simp only [Erun, Ek, Ev, El, Ea, Eu, hX.res, hX.Q, List.getElem?_cons_zero, List.getElem?_cons_succ, seval, Et, h2, h3]
      repeat (with_reducible refine And.intro (by first | assumption | omega | (simp only [i64in] at *; omega)) ?_)
      by_cases h4 : (decide (e.Time > 1099511627776)) = true
      · rw [if_pos h4] at hsh
        simp only [Erun, Ek, Ev, El, Ea, Eu, hX.res, hX.Q, List.getElem?_cons_zero, List.getElem?_cons_succ, seval, Et, h2, h3, h4]
        repeat (with_reducible refine And.intro (by first | assumption | omega | (simp only [i64in] at *; omega)) ?_)
        obtain rfl := Option.some.inj hsh
        refine post_give [] ?_
        simp [El2, El3, El4, Ev, El, Eb, Et, h2, h3, h4]
      · rw [if_neg h4] at hsh; replace h4 := neg_b h4
        simp only [Erun, Ek, Ev, El, Ea, Eu, hX.res, hX.Q, List.getElem?_cons_zero, List.getElem?_cons_succ, seval, Et, h2, h3, h4]
        repeat (with_reducible refine And.intro (by first | assumption | omega | (simp only [i64in] at *; omega)) ?_)
        by_cases h5 : (decide (e.Source < 0)) = true
        · rw [if_pos h5] at hsh
          simp only [Erun, Ek, Ev, El, Ea, Eu, hX.res, hX.Q, List.getElem?_cons_zero, List.getElem?_cons_succ, seval, Et, h2, h3, h4, h5]
          repeat (with_reducible refine And.intro (by first | assumption | omega | (simp only [i64in] at *; omega)) ?_)
          obtain rfl := Option.some.inj hsh
          refine post_give [] ?_
          simp [El2, El3, El4, Ev, El, Eb, Et, h2, h3, h4, h5]
        · rw [if_neg h5] at hsh; replace h5 := neg_b h5
          simp only [Erun, Ek, Ev, El, Ea, Eu, hX.res, hX.Q, List.getElem?_cons_zero, List.getElem?_cons_succ, seval, Et, h2, h3, h4, h5]
          repeat (with_reducible refine And.intro (by first | assumption | omega | (simp only [i64in] at *; omega)) ?_)
          by_cases h6 : (decide (e.Source ≥ 16)) = true
          · rw [if_pos h6] at hsh
            simp only [Erun, Ek, Ev, El, Ea, Eu, hX.res, hX.Q, List.getElem?_cons_zero, List.getElem?_cons_succ, seval, Et, h2, h3, h4, h5, h6]
            repeat (with_reducible refine And.intro (by first | assumption | omega | (simp only [i64in] at *; omega)) ?_)
            obtain rfl := Option.some.inj hsh
            refine post_give [] ?_
            simp [El2, El3, El4, Ev, El, Eb, Et, h2, h3, h4, h5, h6]
          · rw [if_neg h6] at hsh; replace h6 := neg_b h6
            simp only [Erun, Ek, Ev, El, Ea, Eu, hX.res, hX.Q, List.getElem?_cons_zero, List.getElem?_cons_succ, seval, Et, h2, h3, h4, h5, h6]
            repeat (with_reducible refine And.intro (by first | assumption | omega | (simp only [i64in] at *; omega)) ?_)
            by_cases h7 : (decide (e.Seq < 0)) = true
            · rw [if_pos h7] at hsh
              simp only [Erun, Ek, Ev, El, Ea, Eu, hX.res, hX.Q, List.getElem?_cons_zero, List.getElem?_cons_succ, seval, Et, h2, h3, h4, h5, h6, h7]
              repeat (with_reducible refine And.intro (by first | assumption | omega | (simp only [i64in] at *; omega)) ?_)
              obtain rfl := Option.some.inj hsh
              refine post_give [] ?_
              simp [El2, El3, El4, Ev, El, Eb, Et, h2, h3, h4, h5, h6, h7]
            · rw [if_neg h7] at hsh; replace h7 := neg_b h7
              simp only [Erun, Ek, Ev, El, Ea, Eu, hX.res, hX.Q, List.getElem?_cons_zero, List.getElem?_cons_succ, seval, Et, h2, h3, h4, h5, h6, h7]
              repeat (with_reducible refine And.intro (by first | assumption | omega | (simp only [i64in] at *; omega)) ?_)
              by_cases h8 : (decide (e.Seq > 1099511627776)) = true
              · rw [if_pos h8] at hsh
                simp only [Erun, Ek, Ev, El, Ea, Eu, hX.res, hX.Q, List.getElem?_cons_zero, List.getElem?_cons_succ, seval, Et, h2, h3, h4, h5, h6, h7, h8]
                repeat (with_reducible refine And.intro (by first | assumption | omega | (simp only [i64in] at *; omega)) ?_)
                obtain rfl := Option.some.inj hsh
                refine post_give [] ?_
                simp [El2, El3, El4, Ev, El, Eb, Et, h2, h3, h4, h5, h6, h7, h8]
              · rw [if_neg h8] at hsh; replace h8 := neg_b h8
                simp only [Erun, Ek, Ev, El, Ea, Eu, hX.res, hX.Q, List.getElem?_cons_zero, List.getElem?_cons_succ, seval, Et, h2, h3, h4, h5, h6, h7, h8]
                repeat (with_reducible refine And.intro (by first | assumption | omega | (simp only [i64in] at *; omega)) ?_)
                obtain ⟨find, h9, hsh⟩ := Option.bind_eq_some_iff.1 hsh
                have h9k := c_ref06_Find N types e.Type_ find h9
                rw [← hX.P] at h9k
                refine .inl (vcall_pure _ (by rw [hX.P]; exact is_ref06_Find.enters) h9k (fun H => (by simp [El2, El3, El4, Ev, El, Eb, Et, h2, h3, h4, h5, h6, h7, h8])) ?_)
                refine run_go 1000 _ _ _ _ ?_
                simp only [Erun, Ek, Ev, El, Ea, Eu, hX.res, hX.Q, List.getElem?_cons_zero, List.getElem?_cons_succ, seval, Et, h2, h3, h4, h5, h6, h7, h8]
                repeat (with_reducible refine And.intro (by first | assumption | omega | (simp only [i64in] at *; omega)) ?_)
                by_cases h10 : find.2 = true
                · rw [if_pos h10] at hsh
                  simp only [Erun, Ek, Ev, El, Ea, Eu, hX.res, hX.Q, List.getElem?_cons_zero, List.getElem?_cons_succ, seval, Et, h2, h3, h4, h5, h6, h7, h8, h10]
                  repeat (with_reducible refine And.intro (by first | assumption | omega | (simp only [i64in] at *; omega)) ?_)
                  obtain ⟨fits, h11, hsh⟩ := Option.bind_eq_some_iff.1 hsh
                  have h11k := c_ref06_Fits N find.1 e.Vals fits h11
                  rw [← hX.P] at h11k
                  refine .inl (vcall_pure _ (by rw [hX.P]; exact is_ref06_Fits.enters) h11k (fun H => (by simp [El2, El3, El4, Ev, El, Eb, Et, h2, h3, h4, h5, h6, h7, h8, h10])) ?_)
                  refine run_go 1000 _ _ _ _ ?_
                  simp only [Erun, Ek, Ev, El, Ea, Eu, hX.res, hX.Q, List.getElem?_cons_zero, List.getElem?_cons_succ, seval, Et, h2, h3, h4, h5, h6, h7, h8, h10]
                  repeat (with_reducible refine And.intro (by first | assumption | omega | (simp only [i64in] at *; omega)) ?_)
                  obtain rfl := Option.some.inj hsh
                  refine post_give [] ?_
                  simp [El2, El3, El4, Ev, El, Eb, Et, h2, h3, h4, h5, h6, h7, h8, h10]
                · rw [if_neg h10] at hsh; replace h10 := neg_b h10
                  simp only [Erun, Ek, Ev, El, Ea, Eu, hX.res, hX.Q, List.getElem?_cons_zero, List.getElem?_cons_succ, seval, Et, h2, h3, h4, h5, h6, h7, h8, h10]
                  repeat (with_reducible refine And.intro (by first | assumption | omega | (simp only [i64in] at *; omega)) ?_)
                  obtain rfl := Option.some.inj hsh
                  refine post_give [] ?_
                  simp [El2, El3, El4, Ev, El, Eb, Et, h2, h3, h4, h5, h6, h7, h8, h10]
end Go.Proofs.YtfblfapkpieckaaDoor.W
namespace Go.Proofs.YtfblfapkpieckaaDoor.W
open Go
open Go.Proofs.Tryd
set_option linter.unusedSimpArgs false
set_option linter.unusedVariables false
set_option maxHeartbeats 8000000 in
theorem c_gate_New (N : Nat) (types : List schema_Type) (sources : Int) (r : gate_Gate × Int) (hsh : s_gate_New N types sources = some r) : CRes prog 7 [.sl 2 (List.map schema_Type.av types), .v (.int .i64 sources)] .nil (.ret (.tup [gate_Gate.av r.1, .v (.int .i64 r.2)])) .nil := by
  refine is_gate_New.run hm 1000 _ rfl fun X hX => ?_
  simp only [List.length_cons, List.length_nil, List.replicate, Nat.reduceAdd, Nat.reduceSub, El, Et]
  rw [s_gate_New] at hsh
  simp only [Erun, Ek, Ev, El, Ea, Eu, hX.res, hX.Q, List.getElem?_cons_zero, List.getElem?_cons_succ, seval, Et]
  repeat (with_reducible refine And.intro (by first | assumption | omega | (simp only [i64in] at *; omega)) ?_)
  obtain ⟨chec, h1, hsh⟩ := Option.bind_eq_some_iff.1 hsh
  have h1k := c_schema_Check N types chec h1
  rw [← hX.P] at h1k
  refine .inl (vcall_pure _ (by rw [hX.P]; exact is_schema_Check.enters) h1k (fun H => (by simp [El2, El3, El4, Ev, El, Eb, Et])) ?_)
  refine run_go 1000 _ _ _ _ ?_
  simp only [Erun, Ek, Ev, El, Ea, Eu, hX.res, hX.Q, List.getElem?_cons_zero, List.getElem?_cons_succ, seval, Et]
  repeat (with_reducible refine And.intro (by first | assumption | omega | (simp only [i64in] at *; omega)) ?_)
  by_cases h2 : (chec != 0) = true
  · rw [if_pos h2] at hsh
    simp only [Erun, Ek, Ev, El, Ea, Eu, hX.res, hX.Q, List.getElem?_cons_zero, List.getElem?_cons_succ, seval, Et, h2]
    repeat (with_reducible refine And.intro (by first | assumption | omega | (simp only [i64in] at *; omega)) ?_)
    obtain rfl := Option.some.inj hsh
    refine post_give [] ?_
    simp [El2, El3, El4, Ev, El, Eb, Et, h2]
  · rw [if_neg h2] at hsh; replace h2 := neg_b h2
    simp only [Erun, Ek, Ev, El, Ea, Eu, hX.res, hX.Q, List.getElem?_cons_zero, List.getElem?_cons_succ, seval, Et, h2]
    repeat (with_reducible refine And.intro (by first | assumption | omega | (simp only [i64in] at *; omega)) ?_)
    by_cases h3 : (decide (sources < 1)) = true
    · rw [if_pos h3] at hsh
      simp only [Erun, Ek, Ev, El, Ea, Eu, hX.res, hX.Q, List.getElem?_cons_zero, List.getElem?_cons_succ, seval, Et, h2, h3]
      repeat (with_reducible refine And.intro (by first | assumption | omega | (simp only [i64in] at *; omega)) ?_)
      obtain rfl := Option.some.inj hsh
      refine post_give [] ?_
      simp [El2, El3, El4, Ev, El, Eb, Et, h2, h3]
    · rw [if_neg h3] at hsh; replace h3 := neg_b h3
      simp only [Erun, Ek, Ev, El, Ea, Eu, hX.res, hX.Q, List.getElem?_cons_zero, List.getElem?_cons_succ, seval, Et, h2, h3]
      repeat (with_reducible refine And.intro (by first | assumption | omega | (simp only [i64in] at *; omega)) ?_)
      by_cases h4 : (decide (sources > 16)) = true
      · rw [if_pos h4] at hsh
        simp only [Erun, Ek, Ev, El, Ea, Eu, hX.res, hX.Q, List.getElem?_cons_zero, List.getElem?_cons_succ, seval, Et, h2, h3, h4]
        repeat (with_reducible refine And.intro (by first | assumption | omega | (simp only [i64in] at *; omega)) ?_)
        obtain rfl := Option.some.inj hsh
        refine post_give [] ?_
        simp [El2, El3, El4, Ev, El, Eb, Et, h2, h3, h4]
      · rw [if_neg h4] at hsh; replace h4 := neg_b h4
        simp only [Erun, Ek, Ev, El, Ea, Eu, hX.res, hX.Q, List.getElem?_cons_zero, List.getElem?_cons_succ, seval, Et, h2, h3, h4]
        repeat (with_reducible refine And.intro (by first | assumption | omega | (simp only [i64in] at *; omega)) ?_)
        obtain ⟨type, h5, hsh⟩ := Option.bind_eq_some_iff.1 hsh
        have h5k := c_slices_Clone_schema_Type N types type h5
        rw [← hX.P] at h5k
        refine .inl (vcall_pure _ (by rw [hX.P]; exact is_slices_Clone_schema_Type.enters) h5k (fun H => (by simp [El2, El3, El4, Ev, El, Eb, Et, h2, h3, h4])) ?_)
        refine run_go 1000 _ _ _ _ ?_
        obtain ⟨h6, hsh⟩ := guard_some hsh
        have g7 : List.replicate (Int.toNat sources) (.agg [.v (.int .i64 0), .v (.int .i64 0), .v (.bool false)] : AV) = (List.map gate_Source.av (List.replicate (Int.toNat sources) (gate_Source.mk 0 0 false))) := by simp [List.map_replicate, Et]
        have g7m : cMk prog 27 [0, 0, 0] = some (.agg [.v (.int .i64 0), .v (.int .i64 0), .v (.bool false)], 3, 24) := by kernel_rfl
        simp only [Erun, Ek, Ev, El, Ea, Eu, hX.res, hX.Q, List.getElem?_cons_zero, List.getElem?_cons_succ, seval, Et, h2, h3, h4, h6]
        repeat (with_reducible refine And.intro (by first | assumption | omega | (simp only [i64in] at *; omega)) ?_)
        refine vraw_mk (ks := [0, 0, 0]) (zv := .agg [.v (.int .i64 0), .v (.int .i64 0), .v (.bool false)]) (kz := 3) (by_ := 24) (kl := .i64) (kc := .i64) (n := sources) (c := sources) (by rw [hX.P]; exact g7m) (by rfl) (by rfl) (by omega) (by omega) (by omega) (by omega) ?_
        refine run_go 1000 _ _ _ _ ?_
        simp only [Erun, Ek, Ev, El, Ea, Eu, hX.res, hX.Q, List.getElem?_cons_zero, List.getElem?_cons_succ, seval, Et, h2, h3, h4, h6, g7]
        repeat (with_reducible refine And.intro (by first | assumption | omega | (simp only [i64in] at *; omega)) ?_)
        refine go_lessG hX [] [0, 1] [0] _ _ (by rfl) (by rfl) (by simp [El2, El3, El4, Ev, El, Eb, Et, h2, h3, h4, h6]) (by simp [El2, El3, El4, Ev, El, Eb, Et, h2, h3, h4, h6]) (by rfl) (by rfl) (by simp [El2, El3, El4, Ev, El, Eb, Et, h2, h3, h4, h6]) (go_loop2 (fun (x : Int) (ys : List gate_Source) => ([.any, .any, .any, .any, .ptr 0 0, .any, .ptr 1 0, .any, .any, .any, .any, .any, .any, .any, .any, .any, .any, .any, .any, .any, .any, .any, .any, .any, .any, .any, .any, .v (.int .i64 (List.length (List.replicate (Int.toNat sources) (gate_Source.mk 0 0 false)) : Int)), .v (.int .i64 x)] ++ List.replicate 9 .any)) (fun (x : Int) (ys : List gate_Source) => ⟨[[.emp, .emp], [.sl 2 (List.map schema_Type.av type), .own 0]], [.live 3 (List.map gate_Source.av ys)]⟩) 1000 (fun next1 ih1 x ys hsh => ?_) N 0 (List.replicate (Int.toNat sources) (gate_Source.mk 0 0 false)) hsh)
        simp only [List.replicate, El] at ih1 ⊢
        rw [s_gate_New_1] at hsh
        simp only [Erun, Ek, Ev, El, Ea, Eu, hX.res, hX.Q, List.getElem?_cons_zero, List.getElem?_cons_succ, seval, Et, h2, h3, h4, h6, g7]
        repeat (with_reducible refine And.intro (by first | assumption | omega | (simp only [i64in] at *; omega)) ?_)
        by_cases h8 : (decide (x < (List.length (List.replicate (Int.toNat sources) (gate_Source.mk 0 0 false)) : Int))) = true
        · rw [if_pos h8] at hsh
          obtain ⟨e, h9x, hsh⟩ := Option.bind_eq_some_iff.1 hsh
          obtain ⟨h9a, h9b, h9c, h9d⟩ := ix_some h9x
          have g10 : List.set (List.map gate_Source.av ys) (Int.toNat x) (.agg [.v (.int .i64 e.Front), .v (.int .i64 (-1)), .v (.bool e.Closed)] : AV) = (List.map gate_Source.av (List.set ys (Int.toNat x) (gate_Source.mk e.Front (-1) e.Closed))) := by simp [List.map_set, Et]
          obtain ⟨h11, hsh⟩ := guard_some hsh
          simp only [Erun, Ek, Ev, El, Ea, Eu, hX.res, hX.Q, List.getElem?_cons_zero, List.getElem?_cons_succ, seval, Et, h2, h3, h4, h6, g7, h8, h9a, h9b, h9c, h9d, g10, h11]
          repeat (with_reducible refine And.intro (by first | assumption | omega | (simp only [i64in] at *; omega)) ?_)
          exact go_lessG hX [] [0, 1] [0] _ _ (by rfl) (by rfl) (by simp [El2, El3, El4, Ev, El, Eb, Et, h2, h3, h4, h6, h8, h9a, h9b, h9c, h9d, h11]) (by simp [El2, El3, El4, Ev, El, Eb, Et, h2, h3, h4, h6, h8, h9a, h9b, h9c, h9d, h11]) (by rfl) (by rfl) (by simp [El2, El3, El4, Ev, El, Eb, Et, h2, h3, h4, h6, h8, h9a, h9b, h9c, h9d, h11]) (ih1 (x + 1) (List.set ys (Int.toNat x) (gate_Source.mk e.Front (-1) e.Closed)) hsh)
        · rw [if_neg h8] at hsh; replace h8 := neg_b h8
          simp only [Erun, Ek, Ev, El, Ea, Eu, hX.res, hX.Q, List.getElem?_cons_zero, List.getElem?_cons_succ, seval, Et, h2, h3, h4, h6, g7, h8]
          repeat (with_reducible refine And.intro (by first | assumption | omega | (simp only [i64in] at *; omega)) ?_)
          obtain rfl := Option.some.inj hsh
          refine post_give [0] ?_
          simp [El2, El3, El4, Ev, El, Eb, Et, h2, h3, h4, h6, h8]
end Go.Proofs.YtfblfapkpieckaaDoor.W
namespace Go.Proofs.YtfblfapkpieckaaDoor.W
open Go
open Go.Proofs.Tryd
set_option linter.unusedSimpArgs false
set_option linter.unusedVariables false
set_option maxHeartbeats 8000000 in
theorem c_event_Check (N : Nat) (types : List schema_Type) (e : event_Event) (r : Int) (hsh : s_event_Check N types e = some r) : CRes prog 34 [.sl 2 (List.map schema_Type.av types), event_Event.av e] .nil (.ret (.v (.int .i64 r))) .nil := by
  refine is_event_Check.run hm 1000 _ rfl fun X hX => ?_
  simp only [List.length_cons, List.length_nil, List.replicate, Nat.reduceAdd, Nat.reduceSub, El, Et]
  rw [s_event_Check] at hsh
  simp only [Erun, Ek, Ev, El, Ea, Eu, hX.res, hX.Q, List.getElem?_cons_zero, List.getElem?_cons_succ, seval, Et]
  repeat (with_reducible refine And.intro (by first | assumption | omega | (simp only [i64in] at *; omega)) ?_)
  obtain ⟨chec, h1, hsh⟩ := Option.bind_eq_some_iff.1 hsh
  have h1k := c_schema_Check N types chec h1
  rw [← hX.P] at h1k
  refine .inl (vcall_pure _ (by rw [hX.P]; exact is_schema_Check.enters) h1k (fun H => (by simp [El2, El3, El4, Ev, El, Eb, Et])) ?_)
  refine run_go 1000 _ _ _ _ ?_
  simp only [Erun, Ek, Ev, El, Ea, Eu, hX.res, hX.Q, List.getElem?_cons_zero, List.getElem?_cons_succ, seval, Et]
  repeat (with_reducible refine And.intro (by first | assumption | omega | (simp only [i64in] at *; omega)) ?_)
  by_cases h2 : (chec != 0) = true
  · rw [if_pos h2] at hsh
    simp only [Erun, Ek, Ev, El, Ea, Eu, hX.res, hX.Q, List.getElem?_cons_zero, List.getElem?_cons_succ, seval, Et, h2]
    repeat (with_reducible refine And.intro (by first | assumption | omega | (simp only [i64in] at *; omega)) ?_)
    obtain rfl := Option.some.inj hsh
    refine post_give [] ?_
    simp [El2, El3, El4, Ev, El, Eb, Et, h2]
  · rw [if_neg h2] at hsh; replace h2 := neg_b h2
    simp only [Erun, Ek, Ev, El, Ea, Eu, hX.res, hX.Q, List.getElem?_cons_zero, List.getElem?_cons_succ, seval, Et, h2]
    repeat (with_reducible refine And.intro (by first | assumption | omega | (simp only [i64in] at *; omega)) ?_)
    obtain ⟨id, h3, hsh⟩ := Option.bind_eq_some_iff.1 hsh
    have h3k := c_event_Event_ID N e id h3
    rw [← hX.P] at h3k
    refine .inl (vcall_pure _ (by rw [hX.P]; exact is_event_Event_ID.enters) h3k (fun H => (by simp [El2, El3, El4, Ev, El, Eb, Et, h2])) ?_)
    refine run_go 1000 _ _ _ _ ?_
    simp only [Erun, Ek, Ev, El, Ea, Eu, hX.res, hX.Q, List.getElem?_cons_zero, List.getElem?_cons_succ, seval, Et, h2]
    repeat (with_reducible refine And.intro (by first | assumption | omega | (simp only [i64in] at *; omega)) ?_)
    obtain ⟨may, h4, hsh⟩ := Option.bind_eq_some_iff.1 hsh
    have h4k := c_event_ID_may N id may h4
    rw [← hX.P] at h4k
    refine .inl (vcall_pure _ (by rw [hX.P]; exact is_event_ID_may.enters) h4k (fun H => (by simp [El2, El3, El4, Ev, El, Eb, Et, h2])) ?_)
    refine run_go 1000 _ _ _ _ ?_
    simp only [Erun, Ek, Ev, El, Ea, Eu, hX.res, hX.Q, List.getElem?_cons_zero, List.getElem?_cons_succ, seval, Et, h2]
    repeat (with_reducible refine And.intro (by first | assumption | omega | (simp only [i64in] at *; omega)) ?_)
    by_cases h5 : may = true
    · rw [if_pos h5] at hsh
      simp only [Erun, Ek, Ev, El, Ea, Eu, hX.res, hX.Q, List.getElem?_cons_zero, List.getElem?_cons_succ, seval, Et, h2, h5]
      repeat (with_reducible refine And.intro (by first | assumption | omega | (simp only [i64in] at *; omega)) ?_)
      obtain ⟨find, h6, hsh⟩ := Option.bind_eq_some_iff.1 hsh
      have h6k := c_schema_Find N types e.Type_ find h6
      rw [← hX.P] at h6k
      refine .inl (vcall_pure _ (by rw [hX.P]; exact is_schema_Find.enters) h6k (fun H => (by simp [El2, El3, El4, Ev, El, Eb, Et, h2, h5])) ?_)
      refine run_go 1000 _ _ _ _ ?_
      simp only [Erun, Ek, Ev, El, Ea, Eu, hX.res, hX.Q, List.getElem?_cons_zero, List.getElem?_cons_succ, seval, Et, h2, h5]
      repeat (with_reducible refine And.intro (by first | assumption | omega | (simp only [i64in] at *; omega)) ?_)
      by_cases h7 : find.2 = true
      · rw [if_pos h7] at hsh
        simp only [Erun, Ek, Ev, El, Ea, Eu, hX.res, hX.Q, List.getElem?_cons_zero, List.getElem?_cons_succ, seval, Et, h2, h5, h7]
        repeat (with_reducible refine And.intro (by first | assumption | omega | (simp only [i64in] at *; omega)) ?_)
        obtain ⟨fits, h8, hsh⟩ := Option.bind_eq_some_iff.1 hsh
        have h8k := c_schema_Fits N find.1 e.Vals fits h8
        rw [← hX.P] at h8k
        refine .inl (vcall_pure _ (by rw [hX.P]; exact is_schema_Fits.enters) h8k (fun H => (by simp [El2, El3, El4, Ev, El, Eb, Et, h2, h5, h7])) ?_)
        refine run_go 1000 _ _ _ _ ?_
        simp only [Erun, Ek, Ev, El, Ea, Eu, hX.res, hX.Q, List.getElem?_cons_zero, List.getElem?_cons_succ, seval, Et, h2, h5, h7]
        repeat (with_reducible refine And.intro (by first | assumption | omega | (simp only [i64in] at *; omega)) ?_)
        obtain rfl := Option.some.inj hsh
        refine post_give [] ?_
        simp [El2, El3, El4, Ev, El, Eb, Et, h2, h5, h7]
      · rw [if_neg h7] at hsh; replace h7 := neg_b h7
        simp only [Erun, Ek, Ev, El, Ea, Eu, hX.res, hX.Q, List.getElem?_cons_zero, List.getElem?_cons_succ, seval, Et, h2, h5, h7]
        repeat (with_reducible refine And.intro (by first | assumption | omega | (simp only [i64in] at *; omega)) ?_)
        obtain rfl := Option.some.inj hsh
        refine post_give [] ?_
        simp [El2, El3, El4, Ev, El, Eb, Et, h2, h5, h7]
    · rw [if_neg h5] at hsh; replace h5 := neg_b h5
      simp only [Erun, Ek, Ev, El, Ea, Eu, hX.res, hX.Q, List.getElem?_cons_zero, List.getElem?_cons_succ, seval, Et, h2, h5]
      repeat (with_reducible refine And.intro (by first | assumption | omega | (simp only [i64in] at *; omega)) ?_)
      obtain rfl := Option.some.inj hsh
      refine post_give [] ?_
      simp [El2, El3, El4, Ev, El, Eb, Et, h2, h5]
end Go.Proofs.YtfblfapkpieckaaDoor.W
namespace Go.Proofs.YtfblfapkpieckaaDoor.W
open Go
open Go.Proofs.Tryd
set_option linter.unusedSimpArgs false
set_option linter.unusedVariables false
set_option maxHeartbeats 8000000 in
theorem c_ref32_Why (N : Nat) (g : gate_Gate) (e : event_Event) (r : Int) (hsh : s_ref32_Why N g e = some r) : CRes prog 15 [gate_Gate.av g, event_Event.av e] .nil (.ret (.v (.int .i64 r))) .nil := by
  refine is_ref32_Why.run hm 1000 _ rfl fun X hX => ?_
  simp only [List.length_cons, List.length_nil, List.replicate, Nat.reduceAdd, Nat.reduceSub, El, Et]
  rw [s_ref32_Why] at hsh
  simp only [Erun, Ek, Ev, El, Ea, Eu, hX.res, hX.Q, List.getElem?_cons_zero, List.getElem?_cons_succ, seval, Et]
  repeat (with_reducible refine And.intro (by first | assumption | omega | (simp only [i64in] at *; omega)) ?_)
  obtain ⟨chec, h1, hsh⟩ := Option.bind_eq_some_iff.1 hsh
  have h1k := c_ref07_Check N g.Types e chec h1
  rw [← hX.P] at h1k
  refine .inl (vcall_pure _ (by rw [hX.P]; exact is_ref07_Check.enters) h1k (fun H => (by simp [El2, El3, El4, Ev, El, Eb, Et])) ?_)
  refine run_go 1000 _ _ _ _ ?_
  simp only [Erun, Ek, Ev, El, Ea, Eu, hX.res, hX.Q, List.getElem?_cons_zero, List.getElem?_cons_succ, seval, Et]
  repeat (with_reducible refine And.intro (by first | assumption | omega | (simp only [i64in] at *; omega)) ?_)
  by_cases h2 : (chec != 0) = true
  · rw [if_pos h2] at hsh
    simp only [Erun, Ek, Ev, El, Ea, Eu, hX.res, hX.Q, List.getElem?_cons_zero, List.getElem?_cons_succ, seval, Et, h2]
    repeat (with_reducible refine And.intro (by first | assumption | omega | (simp only [i64in] at *; omega)) ?_)
    obtain rfl := Option.some.inj hsh
    refine post_give [] ?_
    simp [El2, El3, El4, Ev, El, Eb, Et, h2]
  · rw [if_neg h2] at hsh; replace h2 := neg_b h2
    simp only [Erun, Ek, Ev, El, Ea, Eu, hX.res, hX.Q, List.getElem?_cons_zero, List.getElem?_cons_succ, seval, Et, h2]
    repeat (with_reducible refine And.intro (by first | assumption | omega | (simp only [i64in] at *; omega)) ?_)
    obtain ⟨vopen, h3, hsh⟩ := Option.bind_eq_some_iff.1 hsh
    have h3k := c_ref32_open N g e.Source vopen h3
    rw [← hX.P] at h3k
    refine .inl (vcall_pure _ (by rw [hX.P]; exact is_ref32_open.enters) h3k (fun H => (by simp [El2, El3, El4, Ev, El, Eb, Et, h2])) ?_)
    refine run_go 1000 _ _ _ _ ?_
    simp only [Erun, Ek, Ev, El, Ea, Eu, hX.res, hX.Q, List.getElem?_cons_zero, List.getElem?_cons_succ, seval, Et, h2]
    repeat (with_reducible refine And.intro (by first | assumption | omega | (simp only [i64in] at *; omega)) ?_)
    by_cases h4 : (vopen != 0) = true
    · rw [if_pos h4] at hsh
      simp only [Erun, Ek, Ev, El, Ea, Eu, hX.res, hX.Q, List.getElem?_cons_zero, List.getElem?_cons_succ, seval, Et, h2, h4]
      repeat (with_reducible refine And.intro (by first | assumption | omega | (simp only [i64in] at *; omega)) ?_)
      obtain rfl := Option.some.inj hsh
      refine post_give [] ?_
      simp [El2, El3, El4, Ev, El, Eb, Et, h2, h4]
    · rw [if_neg h4] at hsh; replace h4 := neg_b h4
      obtain ⟨e2, h5x, hsh⟩ := Option.bind_eq_some_iff.1 hsh
      obtain ⟨h5a, h5b, h5c, h5d⟩ := ix_some h5x
      simp only [Erun, Ek, Ev, El, Ea, Eu, hX.res, hX.Q, List.getElem?_cons_zero, List.getElem?_cons_succ, seval, Et, h2, h4, h5a, h5b, h5c, h5d]
      repeat (with_reducible refine And.intro (by first | assumption | omega | (simp only [i64in] at *; omega)) ?_)
      by_cases h6 : (decide (e.Time < e2.Front)) = true
      · rw [if_pos h6] at hsh
        simp only [Erun, Ek, Ev, El, Ea, Eu, hX.res, hX.Q, List.getElem?_cons_zero, List.getElem?_cons_succ, seval, Et, h2, h4, h5a, h5b, h5c, h5d, h6]
        repeat (with_reducible refine And.intro (by first | assumption | omega | (simp only [i64in] at *; omega)) ?_)
        obtain rfl := Option.some.inj hsh
        refine post_give [] ?_
        simp [El2, El3, El4, Ev, El, Eb, Et, h2, h4, h5a, h5b, h5c, h5d, h6]
      · rw [if_neg h6] at hsh; replace h6 := neg_b h6
        simp only [Erun, Ek, Ev, El, Ea, Eu, hX.res, hX.Q, List.getElem?_cons_zero, List.getElem?_cons_succ, seval, Et, h2, h4, h5a, h5b, h5c, h5d, h6]
        repeat (with_reducible refine And.intro (by first | assumption | omega | (simp only [i64in] at *; omega)) ?_)
        by_cases h7 : (decide (e.Seq ≤ e2.Last)) = true
        · rw [if_pos h7] at hsh
          simp only [Erun, Ek, Ev, El, Ea, Eu, hX.res, hX.Q, List.getElem?_cons_zero, List.getElem?_cons_succ, seval, Et, h2, h4, h5a, h5b, h5c, h5d, h6, h7]
          repeat (with_reducible refine And.intro (by first | assumption | omega | (simp only [i64in] at *; omega)) ?_)
          obtain rfl := Option.some.inj hsh
          refine post_give [] ?_
          simp [El2, El3, El4, Ev, El, Eb, Et, h2, h4, h5a, h5b, h5c, h5d, h6, h7]
        · rw [if_neg h7] at hsh; replace h7 := neg_b h7
          simp only [Erun, Ek, Ev, El, Ea, Eu, hX.res, hX.Q, List.getElem?_cons_zero, List.getElem?_cons_succ, seval, Et, h2, h4, h5a, h5b, h5c, h5d, h6, h7]
          repeat (with_reducible refine And.intro (by first | assumption | omega | (simp only [i64in] at *; omega)) ?_)
          obtain rfl := Option.some.inj hsh
          refine post_give [] ?_
          simp [El2, El3, El4, Ev, El, Eb, Et, h2, h4, h5a, h5b, h5c, h5d, h6, h7]
end Go.Proofs.YtfblfapkpieckaaDoor.W
namespace Go.Proofs.YtfblfapkpieckaaDoor.W
open Go
open Go.Proofs.Tryd
set_option linter.unusedSimpArgs false
set_option linter.unusedVariables false
set_option maxHeartbeats 8000000 in
theorem c_gate_Gate_Why (N : Nat) (g : gate_Gate) (e : event_Event) (r : Int) (hsh : s_gate_Gate_Why N g e = some r) : CRes prog 14 [gate_Gate.av g, event_Event.av e] .nil (.ret (.v (.int .i64 r))) .nil := by
  refine is_gate_Gate_Why.run hm 1000 _ rfl fun X hX => ?_
  simp only [List.length_cons, List.length_nil, List.replicate, Nat.reduceAdd, Nat.reduceSub, El, Et]
  rw [s_gate_Gate_Why] at hsh
  simp only [Erun, Ek, Ev, El, Ea, Eu, hX.res, hX.Q, List.getElem?_cons_zero, List.getElem?_cons_succ, seval, Et]
  repeat (with_reducible refine And.intro (by first | assumption | omega | (simp only [i64in] at *; omega)) ?_)
  obtain ⟨chec, h1, hsh⟩ := Option.bind_eq_some_iff.1 hsh
  have h1k := c_event_Check N g.Types e chec h1
  rw [← hX.P] at h1k
  refine .inl (vcall_pure _ (by rw [hX.P]; exact is_event_Check.enters) h1k (fun H => (by simp [El2, El3, El4, Ev, El, Eb, Et])) ?_)
  refine run_go 1000 _ _ _ _ ?_
  simp only [Erun, Ek, Ev, El, Ea, Eu, hX.res, hX.Q, List.getElem?_cons_zero, List.getElem?_cons_succ, seval, Et]
  repeat (with_reducible refine And.intro (by first | assumption | omega | (simp only [i64in] at *; omega)) ?_)
  by_cases h2 : (chec != 0) = true
  · rw [if_pos h2] at hsh
    simp only [Erun, Ek, Ev, El, Ea, Eu, hX.res, hX.Q, List.getElem?_cons_zero, List.getElem?_cons_succ, seval, Et, h2]
    repeat (with_reducible refine And.intro (by first | assumption | omega | (simp only [i64in] at *; omega)) ?_)
    obtain rfl := Option.some.inj hsh
    refine post_give [] ?_
    simp [El2, El3, El4, Ev, El, Eb, Et, h2]
  · rw [if_neg h2] at hsh; replace h2 := neg_b h2
    simp only [Erun, Ek, Ev, El, Ea, Eu, hX.res, hX.Q, List.getElem?_cons_zero, List.getElem?_cons_succ, seval, Et, h2]
    repeat (with_reducible refine And.intro (by first | assumption | omega | (simp only [i64in] at *; omega)) ?_)
    obtain ⟨vopen, h3, hsh⟩ := Option.bind_eq_some_iff.1 hsh
    have h3k := c_gate_Gate_open N g e.Source vopen h3
    rw [← hX.P] at h3k
    refine .inl (vcall_pure _ (by rw [hX.P]; exact is_gate_Gate_open.enters) h3k (fun H => (by simp [El2, El3, El4, Ev, El, Eb, Et, h2])) ?_)
    refine run_go 1000 _ _ _ _ ?_
    simp only [Erun, Ek, Ev, El, Ea, Eu, hX.res, hX.Q, List.getElem?_cons_zero, List.getElem?_cons_succ, seval, Et, h2]
    repeat (with_reducible refine And.intro (by first | assumption | omega | (simp only [i64in] at *; omega)) ?_)
    by_cases h4 : (vopen.2 != 0) = true
    · rw [if_pos h4] at hsh
      simp only [Erun, Ek, Ev, El, Ea, Eu, hX.res, hX.Q, List.getElem?_cons_zero, List.getElem?_cons_succ, seval, Et, h2, h4]
      repeat (with_reducible refine And.intro (by first | assumption | omega | (simp only [i64in] at *; omega)) ?_)
      obtain rfl := Option.some.inj hsh
      refine post_give [] ?_
      simp [El2, El3, El4, Ev, El, Eb, Et, h2, h4]
    · rw [if_neg h4] at hsh; replace h4 := neg_b h4
      simp only [Erun, Ek, Ev, El, Ea, Eu, hX.res, hX.Q, List.getElem?_cons_zero, List.getElem?_cons_succ, seval, Et, h2, h4]
      repeat (with_reducible refine And.intro (by first | assumption | omega | (simp only [i64in] at *; omega)) ?_)
      by_cases h5 : (decide (e.Time < vopen.1.Front)) = true
      · rw [if_pos h5] at hsh
        simp only [Erun, Ek, Ev, El, Ea, Eu, hX.res, hX.Q, List.getElem?_cons_zero, List.getElem?_cons_succ, seval, Et, h2, h4, h5]
        repeat (with_reducible refine And.intro (by first | assumption | omega | (simp only [i64in] at *; omega)) ?_)
        obtain rfl := Option.some.inj hsh
        refine post_give [] ?_
        simp [El2, El3, El4, Ev, El, Eb, Et, h2, h4, h5]
      · rw [if_neg h5] at hsh; replace h5 := neg_b h5
        simp only [Erun, Ek, Ev, El, Ea, Eu, hX.res, hX.Q, List.getElem?_cons_zero, List.getElem?_cons_succ, seval, Et, h2, h4, h5]
        repeat (with_reducible refine And.intro (by first | assumption | omega | (simp only [i64in] at *; omega)) ?_)
        by_cases h6 : (decide (e.Seq ≤ vopen.1.Last)) = true
        · rw [if_pos h6] at hsh
          simp only [Erun, Ek, Ev, El, Ea, Eu, hX.res, hX.Q, List.getElem?_cons_zero, List.getElem?_cons_succ, seval, Et, h2, h4, h5, h6]
          repeat (with_reducible refine And.intro (by first | assumption | omega | (simp only [i64in] at *; omega)) ?_)
          obtain rfl := Option.some.inj hsh
          refine post_give [] ?_
          simp [El2, El3, El4, Ev, El, Eb, Et, h2, h4, h5, h6]
        · rw [if_neg h6] at hsh; replace h6 := neg_b h6
          simp only [Erun, Ek, Ev, El, Ea, Eu, hX.res, hX.Q, List.getElem?_cons_zero, List.getElem?_cons_succ, seval, Et, h2, h4, h5, h6]
          repeat (with_reducible refine And.intro (by first | assumption | omega | (simp only [i64in] at *; omega)) ?_)
          obtain rfl := Option.some.inj hsh
          refine post_give [] ?_
          simp [El2, El3, El4, Ev, El, Eb, Et, h2, h4, h5, h6]
end Go.Proofs.YtfblfapkpieckaaDoor.W
namespace Go.Proofs.YtfblfapkpieckaaDoor.W
open Go
open Go.Proofs.Tryd
set_option linter.unusedSimpArgs false
set_option linter.unusedVariables false
set_option maxHeartbeats 8000000 in
theorem c_gate_Gate_Accept (N : Nat) (g : gate_Gate) (e : event_Event) (r : gate_Gate × Int) (hsh : s_gate_Gate_Accept N g e = some r) : CRes prog 16 [gate_Gate.av g, event_Event.av e] .nil (.ret (.tup [gate_Gate.av r.1, .v (.int .i64 r.2)])) .nil := by
  refine is_gate_Gate_Accept.run hm 1000 _ rfl fun X hX => ?_
  simp only [List.length_cons, List.length_nil, List.replicate, Nat.reduceAdd, Nat.reduceSub, El, Et]
  rw [s_gate_Gate_Accept] at hsh
  simp only [Erun, Ek, Ev, El, Ea, Eu, hX.res, hX.Q, List.getElem?_cons_zero, List.getElem?_cons_succ, seval, Et]
  repeat (with_reducible refine And.intro (by first | assumption | omega | (simp only [i64in] at *; omega)) ?_)
  obtain ⟨why, h1, hsh⟩ := Option.bind_eq_some_iff.1 hsh
  have h1k := c_gate_Gate_Why N g e why h1
  rw [← hX.P] at h1k
  refine .inl (vcall_pure _ (by rw [hX.P]; exact is_gate_Gate_Why.enters) h1k (fun H => (by simp [El2, El3, El4, Ev, El, Eb, Et])) ?_)
  refine run_go 1000 _ _ _ _ ?_
  simp only [Erun, Ek, Ev, El, Ea, Eu, hX.res, hX.Q, List.getElem?_cons_zero, List.getElem?_cons_succ, seval, Et]
  repeat (with_reducible refine And.intro (by first | assumption | omega | (simp only [i64in] at *; omega)) ?_)
  by_cases h2 : (why != 0) = true
  · rw [if_pos h2] at hsh
    simp only [Erun, Ek, Ev, El, Ea, Eu, hX.res, hX.Q, List.getElem?_cons_zero, List.getElem?_cons_succ, seval, Et, h2]
    repeat (with_reducible refine And.intro (by first | assumption | omega | (simp only [i64in] at *; omega)) ?_)
    obtain rfl := Option.some.inj hsh
    refine post_give [] ?_
    simp [El2, El3, El4, Ev, El, Eb, Et, h2]
  · rw [if_neg h2] at hsh; replace h2 := neg_b h2
    simp only [Erun, Ek, Ev, El, Ea, Eu, hX.res, hX.Q, List.getElem?_cons_zero, List.getElem?_cons_succ, seval, Et, h2]
    repeat (with_reducible refine And.intro (by first | assumption | omega | (simp only [i64in] at *; omega)) ?_)
    obtain ⟨turn, h3, hsh⟩ := Option.bind_eq_some_iff.1 hsh
    have h3k := c_gate_Gate_turn_v778 N g e.Source e.Time e.Source e.Seq e.Type_ e.Vals turn h3
    rw [← hX.P] at h3k
    refine .inl (vcall_lift [] [1] [] _ (by rw [hX.P]; exact is_gate_Gate_turn.enters) h3k (by simp [El2, El3, El4, Ev, El, Eb, Et, h2]) (by simp [El2, El3, El4, Ev, El, Eb, Et, h2]) (by rfl) (by rfl) (by rfl) (by simp [El2, El3, El4, Ev, El, Eb, Et, h2]) ?_)
    simp only [Eu, El, Ev, Ea, Nat.reduceAdd, AH.nil]
    refine run_go 1000 _ _ _ _ ?_
    simp only [Erun, Ek, Ev, El, Ea, Eu, hX.res, hX.Q, List.getElem?_cons_zero, List.getElem?_cons_succ, seval, Et, h2]
    repeat (with_reducible refine And.intro (by first | assumption | omega | (simp only [i64in] at *; omega)) ?_)
    obtain rfl := Option.some.inj hsh
    refine post_give [] ?_
    simp [El2, El3, El4, Ev, El, Eb, Et, h2]
end Go.Proofs.YtfblfapkpieckaaDoor.W
namespace Go.Proofs.YtfblfapkpieckaaDoor.W
open Go
open Go.Proofs.Tryd
set_option linter.unusedSimpArgs false
set_option linter.unusedVariables false
set_option maxHeartbeats 8000000 in
theorem c_ref32_Accept (N : Nat) (g : gate_Gate) (e : event_Event) (r : gate_Gate × Int) (hsh : s_ref32_Accept N g e = some r) : CRes prog 17 [gate_Gate.av g, event_Event.av e] .nil (.ret (.tup [gate_Gate.av r.1, .v (.int .i64 r.2)])) .nil := by
  refine is_ref32_Accept.run hm 1000 _ rfl fun X hX => ?_
  simp only [List.length_cons, List.length_nil, List.replicate, Nat.reduceAdd, Nat.reduceSub, El, Et]
  rw [s_ref32_Accept] at hsh
  simp only [Erun, Ek, Ev, El, Ea, Eu, hX.res, hX.Q, List.getElem?_cons_zero, List.getElem?_cons_succ, seval, Et]
  repeat (with_reducible refine And.intro (by first | assumption | omega | (simp only [i64in] at *; omega)) ?_)
  obtain ⟨why, h1, hsh⟩ := Option.bind_eq_some_iff.1 hsh
  have h1k := c_ref32_Why N g e why h1
  rw [← hX.P] at h1k
  refine .inl (vcall_pure _ (by rw [hX.P]; exact is_ref32_Why.enters) h1k (fun H => (by simp [El2, El3, El4, Ev, El, Eb, Et])) ?_)
  refine run_go 1000 _ _ _ _ ?_
  simp only [Erun, Ek, Ev, El, Ea, Eu, hX.res, hX.Q, List.getElem?_cons_zero, List.getElem?_cons_succ, seval, Et]
  repeat (with_reducible refine And.intro (by first | assumption | omega | (simp only [i64in] at *; omega)) ?_)
  by_cases h2 : (why != 0) = true
  · rw [if_pos h2] at hsh
    simp only [Erun, Ek, Ev, El, Ea, Eu, hX.res, hX.Q, List.getElem?_cons_zero, List.getElem?_cons_succ, seval, Et, h2]
    repeat (with_reducible refine And.intro (by first | assumption | omega | (simp only [i64in] at *; omega)) ?_)
    obtain rfl := Option.some.inj hsh
    refine post_give [] ?_
    simp [El2, El3, El4, Ev, El, Eb, Et, h2]
  · rw [if_neg h2] at hsh; replace h2 := neg_b h2
    obtain ⟨e2, h3x, hsh⟩ := Option.bind_eq_some_iff.1 hsh
    obtain ⟨h3a, h3b, h3c, h3d⟩ := ix_some h3x
    simp only [Erun, Ek, Ev, El, Ea, Eu, hX.res, hX.Q, List.getElem?_cons_zero, List.getElem?_cons_succ, seval, Et, h2, h3a, h3b, h3c, h3d]
    repeat (with_reducible refine And.intro (by first | assumption | omega | (simp only [i64in] at *; omega)) ?_)
    obtain ⟨vwith, h4, hsh⟩ := Option.bind_eq_some_iff.1 hsh
    have h4k := c_ref32_with N g e.Source (gate_Source.mk e2.Front e.Seq false) vwith h4
    rw [← hX.P] at h4k
    refine .inl (vcall_pure _ (by rw [hX.P]; exact is_ref32_with.enters) h4k (fun H => (by simp [El2, El3, El4, Ev, El, Eb, Et, h2, h3a, h3b, h3c, h3d])) ?_)
    refine run_go 1000 _ _ _ _ ?_
    simp only [Erun, Ek, Ev, El, Ea, Eu, hX.res, hX.Q, List.getElem?_cons_zero, List.getElem?_cons_succ, seval, Et, h2, h3a, h3b, h3c, h3d]
    repeat (with_reducible refine And.intro (by first | assumption | omega | (simp only [i64in] at *; omega)) ?_)
    obtain rfl := Option.some.inj hsh
    refine post_give [] ?_
    simp [El2, El3, El4, Ev, El, Eb, Et, h2, h3a, h3b, h3c, h3d]
end Go.Proofs.YtfblfapkpieckaaDoor.W
namespace Go.Proofs.YtfblfapkpieckaaDoor.W
open Go
open Go.Proofs.Tryd
set_option linter.unusedSimpArgs false
set_option linter.unusedVariables false
set_option maxRecDepth 100000 in
set_option maxHeartbeats 8000000 in
theorem c_law32_awake (N : Nat) (r : Bool) (hsh : s_law32_awake N = some r) : CRes prog 6 [] .nil (.ret (.v (.bool r))) .nil := by
  refine is_law32_awake.run hm 1000 _ rfl fun X hX => ?_
  simp only [List.length_cons, List.length_nil, List.replicate, Nat.reduceAdd, Nat.reduceSub, El, Et]
  rw [s_law32_awake] at hsh
  simp only [Erun, Ek, Ev, El, Ea, Eu, hX.res, hX.Q, List.getElem?_cons_zero, List.getElem?_cons_succ, seval, Et]
  repeat (with_reducible refine And.intro (by first | assumption | omega | (simp only [i64in] at *; omega)) ?_)
  obtain ⟨pars, h1, hsh⟩ := Option.bind_eq_some_iff.1 hsh
  have h1k := c_schema_Parse N [116, 10] pars h1
  rw [← hX.P] at h1k
  refine .inl (vcall_pure _ (by rw [hX.P]; exact is_schema_Parse.enters) h1k (fun H => (by simp [El2, El3, El4, Ev, El, Eb, Et])) ?_)
  refine run_go 1000 _ _ _ _ ?_
  simp only [Erun, Ek, Ev, El, Ea, Eu, hX.res, hX.Q, List.getElem?_cons_zero, List.getElem?_cons_succ, seval, Et]
  repeat (with_reducible refine And.intro (by first | assumption | omega | (simp only [i64in] at *; omega)) ?_)
  obtain ⟨new, h2, hsh⟩ := Option.bind_eq_some_iff.1 hsh
  have h2k := c_gate_New N pars.1 2 new h2
  rw [← hX.P] at h2k
  refine .inl (vcall_pure _ (by rw [hX.P]; exact is_gate_New.enters) h2k (fun H => (by simp [El2, El3, El4, Ev, El, Eb, Et])) ?_)
  refine run_go 1000 _ _ _ _ ?_
  simp only [Erun, Ek, Ev, El, Ea, Eu, hX.res, hX.Q, List.getElem?_cons_zero, List.getElem?_cons_succ, seval, Et]
  repeat (with_reducible refine And.intro (by first | assumption | omega | (simp only [i64in] at *; omega)) ?_)
  obtain ⟨new2, h3, hsh⟩ := Option.bind_eq_some_iff.1 hsh
  have h3k := c_gate_New N pars.1 17 new2 h3
  rw [← hX.P] at h3k
  refine .inl (vcall_pure _ (by rw [hX.P]; exact is_gate_New.enters) h3k (fun H => (by simp [El2, El3, El4, Ev, El, Eb, Et])) ?_)
  refine run_go 1000 _ _ _ _ ?_
  simp only [Erun, Ek, Ev, El, Ea, Eu, hX.res, hX.Q, List.getElem?_cons_zero, List.getElem?_cons_succ, seval, Et]
  repeat (with_reducible refine And.intro (by first | assumption | omega | (simp only [i64in] at *; omega)) ?_)
  obtain ⟨adva, h4, hsh⟩ := Option.bind_eq_some_iff.1 hsh
  have h4k := c_gate_Gate_Advance N new.1 0 5 adva h4
  rw [← hX.P] at h4k
  refine .inl (vcall_pure _ (by rw [hX.P]; exact is_gate_Gate_Advance.enters) h4k (fun H => (by simp [El2, El3, El4, Ev, El, Eb, Et])) ?_)
  refine run_go 1000 _ _ _ _ ?_
  simp only [Erun, Ek, Ev, El, Ea, Eu, hX.res, hX.Q, List.getElem?_cons_zero, List.getElem?_cons_succ, seval, Et]
  repeat (with_reducible refine And.intro (by first | assumption | omega | (simp only [i64in] at *; omega)) ?_)
  obtain ⟨adva2, h5, hsh⟩ := Option.bind_eq_some_iff.1 hsh
  have h5k := c_gate_Gate_Advance N adva.1 0 4 adva2 h5
  rw [← hX.P] at h5k
  refine .inl (vcall_pure _ (by rw [hX.P]; exact is_gate_Gate_Advance.enters) h5k (fun H => (by simp [El2, El3, El4, Ev, El, Eb, Et])) ?_)
  refine run_go 1000 _ _ _ _ ?_
  simp only [Erun, Ek, Ev, El, Ea, Eu, hX.res, hX.Q, List.getElem?_cons_zero, List.getElem?_cons_succ, seval, Et]
  repeat (with_reducible refine And.intro (by first | assumption | omega | (simp only [i64in] at *; omega)) ?_)
  obtain ⟨acce, h6, hsh⟩ := Option.bind_eq_some_iff.1 hsh
  have h6k := c_gate_Gate_Accept N adva.1 (event_Event.mk 4 0 0 [116] []) acce h6
  rw [← hX.P] at h6k
  refine .inl (vcall_pure _ (by rw [hX.P]; exact is_gate_Gate_Accept.enters) h6k (fun H => (by simp [El2, El3, El4, Ev, El, Eb, Et])) ?_)
  refine run_go 1000 _ _ _ _ ?_
  simp only [Erun, Ek, Ev, El, Ea, Eu, hX.res, hX.Q, List.getElem?_cons_zero, List.getElem?_cons_succ, seval, Et]
  repeat (with_reducible refine And.intro (by first | assumption | omega | (simp only [i64in] at *; omega)) ?_)
  obtain ⟨acce2, h7, hsh⟩ := Option.bind_eq_some_iff.1 hsh
  have h7k := c_gate_Gate_Accept N adva.1 (event_Event.mk 5 0 3 [116] []) acce2 h7
  rw [← hX.P] at h7k
  refine .inl (vcall_pure _ (by rw [hX.P]; exact is_gate_Gate_Accept.enters) h7k (fun H => (by simp [El2, El3, El4, Ev, El, Eb, Et])) ?_)
  refine run_go 1000 _ _ _ _ ?_
  simp only [Erun, Ek, Ev, El, Ea, Eu, hX.res, hX.Q, List.getElem?_cons_zero, List.getElem?_cons_succ, seval, Et]
  repeat (with_reducible refine And.intro (by first | assumption | omega | (simp only [i64in] at *; omega)) ?_)
  obtain ⟨acce3, h8, hsh⟩ := Option.bind_eq_some_iff.1 hsh
  have h8k := c_gate_Gate_Accept N acce2.1 (event_Event.mk 5 0 3 [116] []) acce3 h8
  rw [← hX.P] at h8k
  refine .inl (vcall_pure _ (by rw [hX.P]; exact is_gate_Gate_Accept.enters) h8k (fun H => (by simp [El2, El3, El4, Ev, El, Eb, Et])) ?_)
  refine run_go 1000 _ _ _ _ ?_
  simp only [Erun, Ek, Ev, El, Ea, Eu, hX.res, hX.Q, List.getElem?_cons_zero, List.getElem?_cons_succ, seval, Et]
  repeat (with_reducible refine And.intro (by first | assumption | omega | (simp only [i64in] at *; omega)) ?_)
  obtain ⟨clos, h9, hsh⟩ := Option.bind_eq_some_iff.1 hsh
  have h9k := c_gate_Gate_Close N acce2.1 1 clos h9
  rw [← hX.P] at h9k
  refine .inl (vcall_pure _ (by rw [hX.P]; exact is_gate_Gate_Close.enters) h9k (fun H => (by simp [El2, El3, El4, Ev, El, Eb, Et])) ?_)
  refine run_go 1000 _ _ _ _ ?_
  simp only [Erun, Ek, Ev, El, Ea, Eu, hX.res, hX.Q, List.getElem?_cons_zero, List.getElem?_cons_succ, seval, Et]
  repeat (with_reducible refine And.intro (by first | assumption | omega | (simp only [i64in] at *; omega)) ?_)
  obtain ⟨clos2, h10, hsh⟩ := Option.bind_eq_some_iff.1 hsh
  have h10k := c_gate_Gate_Close N clos.1 1 clos2 h10
  rw [← hX.P] at h10k
  refine .inl (vcall_pure _ (by rw [hX.P]; exact is_gate_Gate_Close.enters) h10k (fun H => (by simp [El2, El3, El4, Ev, El, Eb, Et])) ?_)
  refine run_go 1000 _ _ _ _ ?_
  simp only [Erun, Ek, Ev, El, Ea, Eu, hX.res, hX.Q, List.getElem?_cons_zero, List.getElem?_cons_succ, seval, Et]
  repeat (with_reducible refine And.intro (by first | assumption | omega | (simp only [i64in] at *; omega)) ?_)
  obtain ⟨clos3, h11, hsh⟩ := Option.bind_eq_some_iff.1 hsh
  have h11k := c_gate_Gate_Close N clos.1 0 clos3 h11
  rw [← hX.P] at h11k
  refine .inl (vcall_pure _ (by rw [hX.P]; exact is_gate_Gate_Close.enters) h11k (fun H => (by simp [El2, El3, El4, Ev, El, Eb, Et])) ?_)
  refine run_go 1000 _ _ _ _ ?_
  simp only [Erun, Ek, Ev, El, Ea, Eu, hX.res, hX.Q, List.getElem?_cons_zero, List.getElem?_cons_succ, seval, Et]
  repeat (with_reducible refine And.intro (by first | assumption | omega | (simp only [i64in] at *; omega)) ?_)
  by_cases h12 : (new.2 == 0) = true
  · rw [if_pos h12] at hsh
    simp only [Erun, Ek, Ev, El, Ea, Eu, hX.res, hX.Q, List.getElem?_cons_zero, List.getElem?_cons_succ, seval, Et, h12]
    repeat (with_reducible refine And.intro (by first | assumption | omega | (simp only [i64in] at *; omega)) ?_)
    by_cases h13 : (new2.2 == 2) = true
    · rw [if_pos h13] at hsh
      simp only [Erun, Ek, Ev, El, Ea, Eu, hX.res, hX.Q, List.getElem?_cons_zero, List.getElem?_cons_succ, seval, Et, h12, h13]
      repeat (with_reducible refine And.intro (by first | assumption | omega | (simp only [i64in] at *; omega)) ?_)
      by_cases h14 : (adva.2 == 0) = true
      · rw [if_pos h14] at hsh
        simp only [Erun, Ek, Ev, El, Ea, Eu, hX.res, hX.Q, List.getElem?_cons_zero, List.getElem?_cons_succ, seval, Et, h12, h13, h14]
        repeat (with_reducible refine And.intro (by first | assumption | omega | (simp only [i64in] at *; omega)) ?_)
        by_cases h15 : (adva2.2 == 8) = true
        · rw [if_pos h15] at hsh
          simp only [Erun, Ek, Ev, El, Ea, Eu, hX.res, hX.Q, List.getElem?_cons_zero, List.getElem?_cons_succ, seval, Et, h12, h13, h14, h15]
          repeat (with_reducible refine And.intro (by first | assumption | omega | (simp only [i64in] at *; omega)) ?_)
          by_cases h16 : (acce.2 == 13) = true
          · rw [if_pos h16] at hsh
            simp only [Erun, Ek, Ev, El, Ea, Eu, hX.res, hX.Q, List.getElem?_cons_zero, List.getElem?_cons_succ, seval, Et, h12, h13, h14, h15, h16]
            repeat (with_reducible refine And.intro (by first | assumption | omega | (simp only [i64in] at *; omega)) ?_)
            by_cases h17 : (acce2.2 == 0) = true
            · rw [if_pos h17] at hsh
              simp only [Erun, Ek, Ev, El, Ea, Eu, hX.res, hX.Q, List.getElem?_cons_zero, List.getElem?_cons_succ, seval, Et, h12, h13, h14, h15, h16, h17]
              repeat (with_reducible refine And.intro (by first | assumption | omega | (simp only [i64in] at *; omega)) ?_)
              by_cases h18 : (acce3.2 == 12) = true
              · rw [if_pos h18] at hsh
                simp only [Erun, Ek, Ev, El, Ea, Eu, hX.res, hX.Q, List.getElem?_cons_zero, List.getElem?_cons_succ, seval, Et, h12, h13, h14, h15, h16, h17, h18]
                repeat (with_reducible refine And.intro (by first | assumption | omega | (simp only [i64in] at *; omega)) ?_)
                by_cases h19 : (clos.2 == 0) = true
                · rw [if_pos h19] at hsh
                  simp only [Erun, Ek, Ev, El, Ea, Eu, hX.res, hX.Q, List.getElem?_cons_zero, List.getElem?_cons_succ, seval, Et, h12, h13, h14, h15, h16, h17, h18, h19]
                  repeat (with_reducible refine And.intro (by first | assumption | omega | (simp only [i64in] at *; omega)) ?_)
                  by_cases h20 : (clos2.2 == 20) = true
                  · rw [if_pos h20] at hsh
                    simp only [Erun, Ek, Ev, El, Ea, Eu, hX.res, hX.Q, List.getElem?_cons_zero, List.getElem?_cons_succ, seval, Et, h12, h13, h14, h15, h16, h17, h18, h19, h20]
                    repeat (with_reducible refine And.intro (by first | assumption | omega | (simp only [i64in] at *; omega)) ?_)
                    obtain ⟨why, h21, hsh⟩ := Option.bind_eq_some_iff.1 hsh
                    have h21k := c_gate_Gate_Why N acce2.1 (event_Event.mk 0 2 0 [116] []) why h21
                    rw [← hX.P] at h21k
                    refine .inl (vcall_pure _ (by rw [hX.P]; exact is_gate_Gate_Why.enters) h21k (fun H => (by simp [El2, El3, El4, Ev, El, Eb, Et, h12, h13, h14, h15, h16, h17, h18, h19, h20])) ?_)
                    refine run_go 1000 _ _ _ _ ?_
                    simp only [Erun, Ek, Ev, El, Ea, Eu, hX.res, hX.Q, List.getElem?_cons_zero, List.getElem?_cons_succ, seval, Et, h12, h13, h14, h15, h16, h17, h18, h19, h20]
                    repeat (with_reducible refine And.intro (by first | assumption | omega | (simp only [i64in] at *; omega)) ?_)
                    by_cases h22 : (why == 17) = true
                    · rw [if_pos h22] at hsh
                      simp only [Erun, Ek, Ev, El, Ea, Eu, hX.res, hX.Q, List.getElem?_cons_zero, List.getElem?_cons_succ, seval, Et, h12, h13, h14, h15, h16, h17, h18, h19, h20, h22]
                      repeat (with_reducible refine And.intro (by first | assumption | omega | (simp only [i64in] at *; omega)) ?_)
                      obtain ⟨why2, h23, hsh⟩ := Option.bind_eq_some_iff.1 hsh
                      have h23k := c_gate_Gate_Why N acce2.1 (event_Event.mk 0 0 0 [117] []) why2 h23
                      rw [← hX.P] at h23k
                      refine .inl (vcall_pure _ (by rw [hX.P]; exact is_gate_Gate_Why.enters) h23k (fun H => (by simp [El2, El3, El4, Ev, El, Eb, Et, h12, h13, h14, h15, h16, h17, h18, h19, h20, h22])) ?_)
                      refine run_go 1000 _ _ _ _ ?_
                      simp only [Erun, Ek, Ev, El, Ea, Eu, hX.res, hX.Q, List.getElem?_cons_zero, List.getElem?_cons_succ, seval, Et, h12, h13, h14, h15, h16, h17, h18, h19, h20, h22]
                      repeat (with_reducible refine And.intro (by first | assumption | omega | (simp only [i64in] at *; omega)) ?_)
                      by_cases h24 : (why2 == 6) = true
                      · rw [if_pos h24] at hsh
                        simp only [Erun, Ek, Ev, El, Ea, Eu, hX.res, hX.Q, List.getElem?_cons_zero, List.getElem?_cons_succ, seval, Et, h12, h13, h14, h15, h16, h17, h18, h19, h20, h22, h24]
                        repeat (with_reducible refine And.intro (by first | assumption | omega | (simp only [i64in] at *; omega)) ?_)
                        obtain ⟨leas, h25, hsh⟩ := Option.bind_eq_some_iff.1 hsh
                        have h25k := c_gate_Gate_Least N acce2.1 leas h25
                        rw [← hX.P] at h25k
                        refine .inl (vcall_pure _ (by rw [hX.P]; exact is_gate_Gate_Least.enters) h25k (fun H => (by simp [El2, El3, El4, Ev, El, Eb, Et, h12, h13, h14, h15, h16, h17, h18, h19, h20, h22, h24])) ?_)
                        refine run_go 1000 _ _ _ _ ?_
                        simp only [Erun, Ek, Ev, El, Ea, Eu, hX.res, hX.Q, List.getElem?_cons_zero, List.getElem?_cons_succ, seval, Et, h12, h13, h14, h15, h16, h17, h18, h19, h20, h22, h24]
                        repeat (with_reducible refine And.intro (by first | assumption | omega | (simp only [i64in] at *; omega)) ?_)
                        by_cases h26 : (leas == 0) = true
                        · rw [if_pos h26] at hsh
                          simp only [Erun, Ek, Ev, El, Ea, Eu, hX.res, hX.Q, List.getElem?_cons_zero, List.getElem?_cons_succ, seval, Et, h12, h13, h14, h15, h16, h17, h18, h19, h20, h22, h24, h26]
                          repeat (with_reducible refine And.intro (by first | assumption | omega | (simp only [i64in] at *; omega)) ?_)
                          obtain ⟨leas2, h27, hsh⟩ := Option.bind_eq_some_iff.1 hsh
                          have h27k := c_gate_Gate_Least N clos.1 leas2 h27
                          rw [← hX.P] at h27k
                          refine .inl (vcall_pure _ (by rw [hX.P]; exact is_gate_Gate_Least.enters) h27k (fun H => (by simp [El2, El3, El4, Ev, El, Eb, Et, h12, h13, h14, h15, h16, h17, h18, h19, h20, h22, h24, h26])) ?_)
                          refine run_go 1000 _ _ _ _ ?_
                          simp only [Erun, Ek, Ev, El, Ea, Eu, hX.res, hX.Q, List.getElem?_cons_zero, List.getElem?_cons_succ, seval, Et, h12, h13, h14, h15, h16, h17, h18, h19, h20, h22, h24, h26]
                          repeat (with_reducible refine And.intro (by first | assumption | omega | (simp only [i64in] at *; omega)) ?_)
                          by_cases h28 : (leas2 == 5) = true
                          · rw [if_pos h28] at hsh
                            simp only [Erun, Ek, Ev, El, Ea, Eu, hX.res, hX.Q, List.getElem?_cons_zero, List.getElem?_cons_succ, seval, Et, h12, h13, h14, h15, h16, h17, h18, h19, h20, h22, h24, h26, h28]
                            repeat (with_reducible refine And.intro (by first | assumption | omega | (simp only [i64in] at *; omega)) ?_)
                            obtain ⟨leas3, h29, hsh⟩ := Option.bind_eq_some_iff.1 hsh
                            have h29k := c_gate_Gate_Least N clos3.1 leas3 h29
                            rw [← hX.P] at h29k
                            refine .inl (vcall_pure _ (by rw [hX.P]; exact is_gate_Gate_Least.enters) h29k (fun H => (by simp [El2, El3, El4, Ev, El, Eb, Et, h12, h13, h14, h15, h16, h17, h18, h19, h20, h22, h24, h26, h28])) ?_)
                            refine run_go 1000 _ _ _ _ ?_
                            simp only [Erun, Ek, Ev, El, Ea, Eu, hX.res, hX.Q, List.getElem?_cons_zero, List.getElem?_cons_succ, seval, Et, h12, h13, h14, h15, h16, h17, h18, h19, h20, h22, h24, h26, h28]
                            repeat (with_reducible refine And.intro (by first | assumption | omega | (simp only [i64in] at *; omega)) ?_)
                            by_cases h30 : (leas3 == 1099511627777) = true
                            · rw [if_pos h30] at hsh
                              simp only [Erun, Ek, Ev, El, Ea, Eu, hX.res, hX.Q, List.getElem?_cons_zero, List.getElem?_cons_succ, seval, Et, h12, h13, h14, h15, h16, h17, h18, h19, h20, h22, h24, h26, h28, h30]
                              repeat (with_reducible refine And.intro (by first | assumption | omega | (simp only [i64in] at *; omega)) ?_)
                              obtain ⟨same, h31, hsh⟩ := Option.bind_eq_some_iff.1 hsh
                              have h31k := c_gate_Same N acce2.1 acce2.1 same h31
                              rw [← hX.P] at h31k
                              refine .inl (vcall_pure _ (by rw [hX.P]; exact is_gate_Same.enters) h31k (fun H => (by simp [El2, El3, El4, Ev, El, Eb, Et, h12, h13, h14, h15, h16, h17, h18, h19, h20, h22, h24, h26, h28, h30])) ?_)
                              refine run_go 1000 _ _ _ _ ?_
                              simp only [Erun, Ek, Ev, El, Ea, Eu, hX.res, hX.Q, List.getElem?_cons_zero, List.getElem?_cons_succ, seval, Et, h12, h13, h14, h15, h16, h17, h18, h19, h20, h22, h24, h26, h28, h30]
                              repeat (with_reducible refine And.intro (by first | assumption | omega | (simp only [i64in] at *; omega)) ?_)
                              by_cases h32 : same = true
                              · rw [if_pos h32] at hsh
                                simp only [Erun, Ek, Ev, El, Ea, Eu, hX.res, hX.Q, List.getElem?_cons_zero, List.getElem?_cons_succ, seval, Et, h12, h13, h14, h15, h16, h17, h18, h19, h20, h22, h24, h26, h28, h30, h32]
                                repeat (with_reducible refine And.intro (by first | assumption | omega | (simp only [i64in] at *; omega)) ?_)
                                obtain ⟨same2, h33, hsh⟩ := Option.bind_eq_some_iff.1 hsh
                                have h33k := c_gate_Same N acce2.1 clos.1 same2 h33
                                rw [← hX.P] at h33k
                                refine .inl (vcall_pure _ (by rw [hX.P]; exact is_gate_Same.enters) h33k (fun H => (by simp [El2, El3, El4, Ev, El, Eb, Et, h12, h13, h14, h15, h16, h17, h18, h19, h20, h22, h24, h26, h28, h30, h32])) ?_)
                                refine run_go 1000 _ _ _ _ ?_
                                simp only [Erun, Ek, Ev, El, Ea, Eu, hX.res, hX.Q, List.getElem?_cons_zero, List.getElem?_cons_succ, seval, Et, h12, h13, h14, h15, h16, h17, h18, h19, h20, h22, h24, h26, h28, h30, h32]
                                repeat (with_reducible refine And.intro (by first | assumption | omega | (simp only [i64in] at *; omega)) ?_)
                                by_cases h34 : same2 = true
                                · rw [if_pos h34] at hsh
                                  simp only [Erun, Ek, Ev, El, Ea, Eu, hX.res, hX.Q, List.getElem?_cons_zero, List.getElem?_cons_succ, seval, Et, h12, h13, h14, h15, h16, h17, h18, h19, h20, h22, h24, h26, h28, h30, h32, h34]
                                  repeat (with_reducible refine And.intro (by first | assumption | omega | (simp only [i64in] at *; omega)) ?_)
                                  obtain rfl := Option.some.inj hsh
                                  refine post_give [] ?_
                                  simp [El2, El3, El4, Ev, El, Eb, Et, h12, h13, h14, h15, h16, h17, h18, h19, h20, h22, h24, h26, h28, h30, h32, h34]
                                · rw [if_neg h34] at hsh; replace h34 := neg_b h34
                                  simp only [Erun, Ek, Ev, El, Ea, Eu, hX.res, hX.Q, List.getElem?_cons_zero, List.getElem?_cons_succ, seval, Et, h12, h13, h14, h15, h16, h17, h18, h19, h20, h22, h24, h26, h28, h30, h32, h34]
                                  repeat (with_reducible refine And.intro (by first | assumption | omega | (simp only [i64in] at *; omega)) ?_)
                                  obtain rfl := Option.some.inj hsh
                                  refine post_give [] ?_
                                  simp [El2, El3, El4, Ev, El, Eb, Et, h12, h13, h14, h15, h16, h17, h18, h19, h20, h22, h24, h26, h28, h30, h32, h34]
                              · rw [if_neg h32] at hsh; replace h32 := neg_b h32
                                simp only [Erun, Ek, Ev, El, Ea, Eu, hX.res, hX.Q, List.getElem?_cons_zero, List.getElem?_cons_succ, seval, Et, h12, h13, h14, h15, h16, h17, h18, h19, h20, h22, h24, h26, h28, h30, h32]
                                repeat (with_reducible refine And.intro (by first | assumption | omega | (simp only [i64in] at *; omega)) ?_)
                                obtain rfl := Option.some.inj hsh
                                refine post_give [] ?_
                                simp [El2, El3, El4, Ev, El, Eb, Et, h12, h13, h14, h15, h16, h17, h18, h19, h20, h22, h24, h26, h28, h30, h32]
                            · rw [if_neg h30] at hsh; replace h30 := neg_b h30
                              simp only [Erun, Ek, Ev, El, Ea, Eu, hX.res, hX.Q, List.getElem?_cons_zero, List.getElem?_cons_succ, seval, Et, h12, h13, h14, h15, h16, h17, h18, h19, h20, h22, h24, h26, h28, h30]
                              repeat (with_reducible refine And.intro (by first | assumption | omega | (simp only [i64in] at *; omega)) ?_)
                              obtain rfl := Option.some.inj hsh
                              refine post_give [] ?_
                              simp [El2, El3, El4, Ev, El, Eb, Et, h12, h13, h14, h15, h16, h17, h18, h19, h20, h22, h24, h26, h28, h30]
                          · rw [if_neg h28] at hsh; replace h28 := neg_b h28
                            simp only [Erun, Ek, Ev, El, Ea, Eu, hX.res, hX.Q, List.getElem?_cons_zero, List.getElem?_cons_succ, seval, Et, h12, h13, h14, h15, h16, h17, h18, h19, h20, h22, h24, h26, h28]
                            repeat (with_reducible refine And.intro (by first | assumption | omega | (simp only [i64in] at *; omega)) ?_)
                            obtain rfl := Option.some.inj hsh
                            refine post_give [] ?_
                            simp [El2, El3, El4, Ev, El, Eb, Et, h12, h13, h14, h15, h16, h17, h18, h19, h20, h22, h24, h26, h28]
                        · rw [if_neg h26] at hsh; replace h26 := neg_b h26
                          simp only [Erun, Ek, Ev, El, Ea, Eu, hX.res, hX.Q, List.getElem?_cons_zero, List.getElem?_cons_succ, seval, Et, h12, h13, h14, h15, h16, h17, h18, h19, h20, h22, h24, h26]
                          repeat (with_reducible refine And.intro (by first | assumption | omega | (simp only [i64in] at *; omega)) ?_)
                          obtain rfl := Option.some.inj hsh
                          refine post_give [] ?_
                          simp [El2, El3, El4, Ev, El, Eb, Et, h12, h13, h14, h15, h16, h17, h18, h19, h20, h22, h24, h26]
                      · rw [if_neg h24] at hsh; replace h24 := neg_b h24
                        simp only [Erun, Ek, Ev, El, Ea, Eu, hX.res, hX.Q, List.getElem?_cons_zero, List.getElem?_cons_succ, seval, Et, h12, h13, h14, h15, h16, h17, h18, h19, h20, h22, h24]
                        repeat (with_reducible refine And.intro (by first | assumption | omega | (simp only [i64in] at *; omega)) ?_)
                        obtain rfl := Option.some.inj hsh
                        refine post_give [] ?_
                        simp [El2, El3, El4, Ev, El, Eb, Et, h12, h13, h14, h15, h16, h17, h18, h19, h20, h22, h24]
                    · rw [if_neg h22] at hsh; replace h22 := neg_b h22
                      simp only [Erun, Ek, Ev, El, Ea, Eu, hX.res, hX.Q, List.getElem?_cons_zero, List.getElem?_cons_succ, seval, Et, h12, h13, h14, h15, h16, h17, h18, h19, h20, h22]
                      repeat (with_reducible refine And.intro (by first | assumption | omega | (simp only [i64in] at *; omega)) ?_)
                      obtain rfl := Option.some.inj hsh
                      refine post_give [] ?_
                      simp [El2, El3, El4, Ev, El, Eb, Et, h12, h13, h14, h15, h16, h17, h18, h19, h20, h22]
                  · rw [if_neg h20] at hsh; replace h20 := neg_b h20
                    simp only [Erun, Ek, Ev, El, Ea, Eu, hX.res, hX.Q, List.getElem?_cons_zero, List.getElem?_cons_succ, seval, Et, h12, h13, h14, h15, h16, h17, h18, h19, h20]
                    repeat (with_reducible refine And.intro (by first | assumption | omega | (simp only [i64in] at *; omega)) ?_)
                    obtain rfl := Option.some.inj hsh
                    refine post_give [] ?_
                    simp [El2, El3, El4, Ev, El, Eb, Et, h12, h13, h14, h15, h16, h17, h18, h19, h20]
                · rw [if_neg h19] at hsh; replace h19 := neg_b h19
                  simp only [Erun, Ek, Ev, El, Ea, Eu, hX.res, hX.Q, List.getElem?_cons_zero, List.getElem?_cons_succ, seval, Et, h12, h13, h14, h15, h16, h17, h18, h19]
                  repeat (with_reducible refine And.intro (by first | assumption | omega | (simp only [i64in] at *; omega)) ?_)
                  obtain rfl := Option.some.inj hsh
                  refine post_give [] ?_
                  simp [El2, El3, El4, Ev, El, Eb, Et, h12, h13, h14, h15, h16, h17, h18, h19]
              · rw [if_neg h18] at hsh; replace h18 := neg_b h18
                simp only [Erun, Ek, Ev, El, Ea, Eu, hX.res, hX.Q, List.getElem?_cons_zero, List.getElem?_cons_succ, seval, Et, h12, h13, h14, h15, h16, h17, h18]
                repeat (with_reducible refine And.intro (by first | assumption | omega | (simp only [i64in] at *; omega)) ?_)
                obtain rfl := Option.some.inj hsh
                refine post_give [] ?_
                simp [El2, El3, El4, Ev, El, Eb, Et, h12, h13, h14, h15, h16, h17, h18]
            · rw [if_neg h17] at hsh; replace h17 := neg_b h17
              simp only [Erun, Ek, Ev, El, Ea, Eu, hX.res, hX.Q, List.getElem?_cons_zero, List.getElem?_cons_succ, seval, Et, h12, h13, h14, h15, h16, h17]
              repeat (with_reducible refine And.intro (by first | assumption | omega | (simp only [i64in] at *; omega)) ?_)
              obtain rfl := Option.some.inj hsh
              refine post_give [] ?_
              simp [El2, El3, El4, Ev, El, Eb, Et, h12, h13, h14, h15, h16, h17]
          · rw [if_neg h16] at hsh; replace h16 := neg_b h16
            simp only [Erun, Ek, Ev, El, Ea, Eu, hX.res, hX.Q, List.getElem?_cons_zero, List.getElem?_cons_succ, seval, Et, h12, h13, h14, h15, h16]
            repeat (with_reducible refine And.intro (by first | assumption | omega | (simp only [i64in] at *; omega)) ?_)
            obtain rfl := Option.some.inj hsh
            refine post_give [] ?_
            simp [El2, El3, El4, Ev, El, Eb, Et, h12, h13, h14, h15, h16]
        · rw [if_neg h15] at hsh; replace h15 := neg_b h15
          simp only [Erun, Ek, Ev, El, Ea, Eu, hX.res, hX.Q, List.getElem?_cons_zero, List.getElem?_cons_succ, seval, Et, h12, h13, h14, h15]
          repeat (with_reducible refine And.intro (by first | assumption | omega | (simp only [i64in] at *; omega)) ?_)
          obtain rfl := Option.some.inj hsh
          refine post_give [] ?_
          simp [El2, El3, El4, Ev, El, Eb, Et, h12, h13, h14, h15]
      · rw [if_neg h14] at hsh; replace h14 := neg_b h14
        simp only [Erun, Ek, Ev, El, Ea, Eu, hX.res, hX.Q, List.getElem?_cons_zero, List.getElem?_cons_succ, seval, Et, h12, h13, h14]
        repeat (with_reducible refine And.intro (by first | assumption | omega | (simp only [i64in] at *; omega)) ?_)
        obtain rfl := Option.some.inj hsh
        refine post_give [] ?_
        simp [El2, El3, El4, Ev, El, Eb, Et, h12, h13, h14]
    · rw [if_neg h13] at hsh; replace h13 := neg_b h13
      simp only [Erun, Ek, Ev, El, Ea, Eu, hX.res, hX.Q, List.getElem?_cons_zero, List.getElem?_cons_succ, seval, Et, h12, h13]
      repeat (with_reducible refine And.intro (by first | assumption | omega | (simp only [i64in] at *; omega)) ?_)
      obtain rfl := Option.some.inj hsh
      refine post_give [] ?_
      simp [El2, El3, El4, Ev, El, Eb, Et, h12, h13]
  · rw [if_neg h12] at hsh; replace h12 := neg_b h12
    simp only [Erun, Ek, Ev, El, Ea, Eu, hX.res, hX.Q, List.getElem?_cons_zero, List.getElem?_cons_succ, seval, Et, h12]
    repeat (with_reducible refine And.intro (by first | assumption | omega | (simp only [i64in] at *; omega)) ?_)
    obtain rfl := Option.some.inj hsh
    refine post_give [] ?_
    simp [El2, El3, El4, Ev, El, Eb, Et, h12]
end Go.Proofs.YtfblfapkpieckaaDoor.W
namespace Go.Proofs.YtfblfapkpieckaaDoor.W
open Go
open Go.Proofs.Tryd
set_option linter.unusedSimpArgs false
set_option linter.unusedVariables false
set_option maxRecDepth 100000 in
set_option maxHeartbeats 8000000 in
theorem c_law32_GateDoes (N : Nat) (types : List schema_Type) (sources : Int) (l : List law32_Op) (r : Bool) (hsh : s_law32_GateDoes N types sources l = some r) : CRes prog 3 [.sl 2 (List.map schema_Type.av types), .v (.int .i64 sources), .sl 8 (List.map law32_Op.av l)] .nil (.ret (.v (.bool r))) .nil := by
  refine is_law32_GateDoes.run hm 1000 _ rfl fun X hX => ?_
  simp only [List.length_cons, List.length_nil, List.replicate, Nat.reduceAdd, Nat.reduceSub, El, Et]
  rw [s_law32_GateDoes] at hsh
  simp only [Erun, Ek, Ev, El, Ea, Eu, hX.res, hX.Q, List.getElem?_cons_zero, List.getElem?_cons_succ, seval, Et]
  repeat (with_reducible refine And.intro (by first | assumption | omega | (simp only [i64in] at *; omega)) ?_)
  obtain ⟨over, h1, hsh⟩ := Option.bind_eq_some_iff.1 hsh
  have h1k := c_law06_Over N types over h1
  rw [← hX.P] at h1k
  refine .inl (vcall_pure _ (by rw [hX.P]; exact is_law06_Over.enters) h1k (fun H => (by simp [El2, El3, El4, Ev, El, Eb, Et])) ?_)
  refine run_go 1000 _ _ _ _ ?_
  simp only [Erun, Ek, Ev, El, Ea, Eu, hX.res, hX.Q, List.getElem?_cons_zero, List.getElem?_cons_succ, seval, Et]
  repeat (with_reducible refine And.intro (by first | assumption | omega | (simp only [i64in] at *; omega)) ?_)
  by_cases h2 : (decide (over > 0)) = true
  · rw [if_pos h2] at hsh
    simp only [Erun, Ek, Ev, El, Ea, Eu, hX.res, hX.Q, List.getElem?_cons_zero, List.getElem?_cons_succ, seval, Et, h2]
    repeat (with_reducible refine And.intro (by first | assumption | omega | (simp only [i64in] at *; omega)) ?_)
    obtain ⟨awak, h3, hsh⟩ := Option.bind_eq_some_iff.1 hsh
    have h3k := c_law32_awake N awak h3
    rw [← hX.P] at h3k
    refine .inl (vcall_pure _ (by rw [hX.P]; exact is_law32_awake.enters) h3k (fun H => (by simp [El2, El3, El4, Ev, El, Eb, Et, h2])) ?_)
    refine run_go 1000 _ _ _ _ ?_
    simp only [Erun, Ek, Ev, El, Ea, Eu, hX.res, hX.Q, List.getElem?_cons_zero, List.getElem?_cons_succ, seval, Et, h2]
    repeat (with_reducible refine And.intro (by first | assumption | omega | (simp only [i64in] at *; omega)) ?_)
    obtain rfl := Option.some.inj hsh
    refine post_give [] ?_
    simp [El2, El3, El4, Ev, El, Eb, Et, h2]
  · rw [if_neg h2] at hsh; replace h2 := neg_b h2
    simp only [Erun, Ek, Ev, El, Ea, Eu, hX.res, hX.Q, List.getElem?_cons_zero, List.getElem?_cons_succ, seval, Et, h2]
    repeat (with_reducible refine And.intro (by first | assumption | omega | (simp only [i64in] at *; omega)) ?_)
    by_cases h4 : (decide ((List.length l : Int) > 20)) = true
    · rw [if_pos h4] at hsh
      simp only [Erun, Ek, Ev, El, Ea, Eu, hX.res, hX.Q, List.getElem?_cons_zero, List.getElem?_cons_succ, seval, Et, h2, h4]
      repeat (with_reducible refine And.intro (by first | assumption | omega | (simp only [i64in] at *; omega)) ?_)
      obtain ⟨awak2, h5, hsh⟩ := Option.bind_eq_some_iff.1 hsh
      have h5k := c_law32_awake N awak2 h5
      rw [← hX.P] at h5k
      refine .inl (vcall_pure _ (by rw [hX.P]; exact is_law32_awake.enters) h5k (fun H => (by simp [El2, El3, El4, Ev, El, Eb, Et, h2, h4])) ?_)
      refine run_go 1000 _ _ _ _ ?_
      simp only [Erun, Ek, Ev, El, Ea, Eu, hX.res, hX.Q, List.getElem?_cons_zero, List.getElem?_cons_succ, seval, Et, h2, h4]
      repeat (with_reducible refine And.intro (by first | assumption | omega | (simp only [i64in] at *; omega)) ?_)
      obtain rfl := Option.some.inj hsh
      refine post_give [] ?_
      simp [El2, El3, El4, Ev, El, Eb, Et, h2, h4]
    · rw [if_neg h4] at hsh; replace h4 := neg_b h4
      simp only [Erun, Ek, Ev, El, Ea, Eu, hX.res, hX.Q, List.getElem?_cons_zero, List.getElem?_cons_succ, seval, Et, h2, h4]
      repeat (with_reducible refine And.intro (by first | assumption | omega | (simp only [i64in] at *; omega)) ?_)
      obtain ⟨own, h6, hsh⟩ := Option.bind_eq_some_iff.1 hsh
      have h6k := c_law06_Own N types own h6
      rw [← hX.P] at h6k
      refine .inl (vcall_pure _ (by rw [hX.P]; exact is_law06_Own.enters) h6k (fun H => (by simp [El2, El3, El4, Ev, El, Eb, Et, h2, h4])) ?_)
      refine run_go 1000 _ _ _ _ ?_
      simp only [Erun, Ek, Ev, El, Ea, Eu, hX.res, hX.Q, List.getElem?_cons_zero, List.getElem?_cons_succ, seval, Et, h2, h4]
      repeat (with_reducible refine And.intro (by first | assumption | omega | (simp only [i64in] at *; omega)) ?_)
      obtain ⟨new, h7, hsh⟩ := Option.bind_eq_some_iff.1 hsh
      have h7k := c_gate_New N own sources new h7
      rw [← hX.P] at h7k
      refine .inl (vcall_pure _ (by rw [hX.P]; exact is_gate_New.enters) h7k (fun H => (by simp [El2, El3, El4, Ev, El, Eb, Et, h2, h4])) ?_)
      refine run_go 1000 _ _ _ _ ?_
      simp only [Erun, Ek, Ev, El, Ea, Eu, hX.res, hX.Q, List.getElem?_cons_zero, List.getElem?_cons_succ, seval, Et, h2, h4]
      repeat (with_reducible refine And.intro (by first | assumption | omega | (simp only [i64in] at *; omega)) ?_)
      obtain ⟨new2, h8, hsh⟩ := Option.bind_eq_some_iff.1 hsh
      have h8k := c_ref32_New N types sources new2 h8
      rw [← hX.P] at h8k
      refine .inl (vcall_pure _ (by rw [hX.P]; exact is_ref32_New.enters) h8k (fun H => (by simp [El2, El3, El4, Ev, El, Eb, Et, h2, h4])) ?_)
      refine run_go 1000 _ _ _ _ ?_
      simp only [Erun, Ek, Ev, El, Ea, Eu, hX.res, hX.Q, List.getElem?_cons_zero, List.getElem?_cons_succ, seval, Et, h2, h4]
      repeat (with_reducible refine And.intro (by first | assumption | omega | (simp only [i64in] at *; omega)) ?_)
      by_cases h9 : (new.2 != new2.2) = true
      · rw [if_pos h9] at hsh
        simp only [Erun, Ek, Ev, El, Ea, Eu, hX.res, hX.Q, List.getElem?_cons_zero, List.getElem?_cons_succ, seval, Et, h2, h4, h9]
        repeat (with_reducible refine And.intro (by first | assumption | omega | (simp only [i64in] at *; omega)) ?_)
        obtain rfl := Option.some.inj hsh
        refine post_give [] ?_
        simp [El2, El3, El4, Ev, El, Eb, Et, h2, h4, h9]
      · rw [if_neg h9] at hsh; replace h9 := neg_b h9
        simp only [Erun, Ek, Ev, El, Ea, Eu, hX.res, hX.Q, List.getElem?_cons_zero, List.getElem?_cons_succ, seval, Et, h2, h4, h9]
        repeat (with_reducible refine And.intro (by first | assumption | omega | (simp only [i64in] at *; omega)) ?_)
        obtain ⟨back, h10, hsh⟩ := Option.bind_eq_some_iff.1 hsh
        have h10k := c_law32_Back N new.1 back h10
        rw [← hX.P] at h10k
        refine .inl (vcall_pure _ (by rw [hX.P]; exact is_law32_Back.enters) h10k (fun H => (by simp [El2, El3, El4, Ev, El, Eb, Et, h2, h4, h9])) ?_)
        refine run_go 1000 _ _ _ _ ?_
        simp only [Erun, Ek, Ev, El, Ea, Eu, hX.res, hX.Q, List.getElem?_cons_zero, List.getElem?_cons_succ, seval, Et, h2, h4, h9]
        repeat (with_reducible refine And.intro (by first | assumption | omega | (simp only [i64in] at *; omega)) ?_)
        obtain ⟨same, h11, hsh⟩ := Option.bind_eq_some_iff.1 hsh
        have h11k := c_ref32_Same N back new2.1 same h11
        rw [← hX.P] at h11k
        refine .inl (vcall_pure _ (by rw [hX.P]; exact is_ref32_Same.enters) h11k (fun H => (by simp [El2, El3, El4, Ev, El, Eb, Et, h2, h4, h9])) ?_)
        refine run_go 1000 _ _ _ _ ?_
        simp only [Erun, Ek, Ev, El, Ea, Eu, hX.res, hX.Q, List.getElem?_cons_zero, List.getElem?_cons_succ, seval, Et, h2, h4, h9]
        repeat (with_reducible refine And.intro (by first | assumption | omega | (simp only [i64in] at *; omega)) ?_)
        by_cases h12 : same = true
        · rw [if_pos h12] at hsh
          simp only [Erun, Ek, Ev, El, Ea, Eu, hX.res, hX.Q, List.getElem?_cons_zero, List.getElem?_cons_succ, seval, Et, h2, h4, h9, h12]
          repeat (with_reducible refine And.intro (by first | assumption | omega | (simp only [i64in] at *; omega)) ?_)
          refine go_lessG hX [] [0, 1] [] _ _ (by rfl) (by rfl) (by simp [El2, El3, El4, Ev, El, Eb, Et, h2, h4, h9, h12]) (by simp [El2, El3, El4, Ev, El, Eb, Et, h2, h4, h9, h12]) (by rfl) (by rfl) (by simp [El2, El3, El4, Ev, El, Eb, Et, h2, h4, h9, h12]) (go_loop5 (fun (i : Int) (y : List schema_Type) (y2 : List gate_Source) (y3 : List schema_Type) (y4 : List gate_Source) => ([.any, .any, .sl 8 (List.map law32_Op.av l), .any, .any, .any, .any, .ptr 0 0, .any, .ptr 1 0, .any, .v (.int .i64 i)] ++ List.replicate 174 .any)) (fun (i : Int) (y : List schema_Type) (y2 : List gate_Source) (y3 : List schema_Type) (y4 : List gate_Source) => ⟨[[.sl 2 (List.map schema_Type.av y), .sl 3 (List.map gate_Source.av y2)], [.sl 2 (List.map schema_Type.av y3), .sl 3 (List.map gate_Source.av y4)]], []⟩) 1000 (fun next1 ih1 i y y2 y3 y4 hsh => ?_) N 0 new.1.Types new.1.L new2.1.Types new2.1.L hsh)
          simp only [List.replicate, El] at ih1 ⊢
          rw [s_law32_GateDoes_1] at hsh
          simp only [Erun, Ek, Ev, El, Ea, Eu, hX.res, hX.Q, List.getElem?_cons_zero, List.getElem?_cons_succ, seval, Et, h2, h4, h9, h12]
          repeat (with_reducible refine And.intro (by first | assumption | omega | (simp only [i64in] at *; omega)) ?_)
          by_cases h13 : (decide (i < (List.length l : Int))) = true
          · rw [if_pos h13] at hsh
            obtain ⟨e, h14x, hsh⟩ := Option.bind_eq_some_iff.1 hsh
            obtain ⟨h14a, h14b, h14c, h14d⟩ := ix_some h14x
            simp only [Erun, Ek, Ev, El, Ea, Eu, hX.res, hX.Q, List.getElem?_cons_zero, List.getElem?_cons_succ, seval, Et, h2, h4, h9, h12, h13, h14a, h14b, h14c, h14d]
            repeat (with_reducible refine And.intro (by first | assumption | omega | (simp only [i64in] at *; omega)) ?_)
            obtain ⟨over2, h15, hsh⟩ := Option.bind_eq_some_iff.1 hsh
            have h15k := c_law07_Over N [e.E] 1 over2 h15
            rw [← hX.P] at h15k
            refine .inl (vcall_lend [0] _ (by rw [hX.P]; exact is_law07_Over.enters) h15k (by simp [El2, El3, El4, Ev, El, Eb, Et, h2, h4, h9, h12, h13, h14a, h14b, h14c, h14d]) (by simp [AV.scal, Et]) ?_)
            refine run_go 1000 _ _ _ _ ?_
            simp only [Erun, Ek, Ev, El, Ea, Eu, hX.res, hX.Q, List.getElem?_cons_zero, List.getElem?_cons_succ, seval, Et, h2, h4, h9, h12, h13, h14a, h14b, h14c, h14d]
            repeat (with_reducible refine And.intro (by first | assumption | omega | (simp only [i64in] at *; omega)) ?_)
            by_cases h16 : (decide (over2 > 0)) = true
            · rw [if_pos h16] at hsh
              simp only [Erun, Ek, Ev, El, Ea, Eu, hX.res, hX.Q, List.getElem?_cons_zero, List.getElem?_cons_succ, seval, Et, h2, h4, h9, h12, h13, h14a, h14b, h14c, h14d, h16]
              repeat (with_reducible refine And.intro (by first | assumption | omega | (simp only [i64in] at *; omega)) ?_)
              obtain ⟨awak3, h17, hsh⟩ := Option.bind_eq_some_iff.1 hsh
              have h17k := c_law32_awake N awak3 h17
              rw [← hX.P] at h17k
              refine .inl (vcall_pure _ (by rw [hX.P]; exact is_law32_awake.enters) h17k (fun H => (by simp [El2, El3, El4, Ev, El, Eb, Et, h2, h4, h9, h12, h13, h14a, h14b, h14c, h14d, h16])) ?_)
              refine run_go 1000 _ _ _ _ ?_
              simp only [Erun, Ek, Ev, El, Ea, Eu, hX.res, hX.Q, List.getElem?_cons_zero, List.getElem?_cons_succ, seval, Et, h2, h4, h9, h12, h13, h14a, h14b, h14c, h14d, h16]
              repeat (with_reducible refine And.intro (by first | assumption | omega | (simp only [i64in] at *; omega)) ?_)
              obtain rfl := Option.some.inj hsh
              refine post_give [] ?_
              simp [El2, El3, El4, Ev, El, Eb, Et, h2, h4, h9, h12, h13, h14a, h14b, h14c, h14d, h16]
            · rw [if_neg h16] at hsh; replace h16 := neg_b h16
              simp only [Erun, Ek, Ev, El, Ea, Eu, hX.res, hX.Q, List.getElem?_cons_zero, List.getElem?_cons_succ, seval, Et, h2, h4, h9, h12, h13, h14a, h14b, h14c, h14d, h16]
              repeat (with_reducible refine And.intro (by first | assumption | omega | (simp only [i64in] at *; omega)) ?_)
              obtain ⟨own2, h18, hsh⟩ := Option.bind_eq_some_iff.1 hsh
              have h18k := c_law07_Own N e.E own2 h18
              rw [← hX.P] at h18k
              refine .inl (vcall_pure _ (by rw [hX.P]; exact is_law07_Own.enters) h18k (fun H => (by simp [El2, El3, El4, Ev, El, Eb, Et, h2, h4, h9, h12, h13, h14a, h14b, h14c, h14d, h16])) ?_)
              refine run_go 1000 _ _ _ _ ?_
              simp only [Erun, Ek, Ev, El, Ea, Eu, hX.res, hX.Q, List.getElem?_cons_zero, List.getElem?_cons_succ, seval, Et, h2, h4, h9, h12, h13, h14a, h14b, h14c, h14d, h16]
              repeat (with_reducible refine And.intro (by first | assumption | omega | (simp only [i64in] at *; omega)) ?_)
              obtain ⟨why, h19, hsh⟩ := Option.bind_eq_some_iff.1 hsh
              have h19k := c_gate_Gate_Why N (gate_Gate.mk y y2) own2 why h19
              rw [← hX.P] at h19k
              refine .inl (vcall_pure _ (by rw [hX.P]; exact is_gate_Gate_Why.enters) h19k (fun H => (by simp [El2, El3, El4, Ev, El, Eb, Et, h2, h4, h9, h12, h13, h14a, h14b, h14c, h14d, h16])) ?_)
              refine run_go 1000 _ _ _ _ ?_
              simp only [Erun, Ek, Ev, El, Ea, Eu, hX.res, hX.Q, List.getElem?_cons_zero, List.getElem?_cons_succ, seval, Et, h2, h4, h9, h12, h13, h14a, h14b, h14c, h14d, h16]
              repeat (with_reducible refine And.intro (by first | assumption | omega | (simp only [i64in] at *; omega)) ?_)
              obtain ⟨why2, h20, hsh⟩ := Option.bind_eq_some_iff.1 hsh
              have h20k := c_ref32_Why N (gate_Gate.mk y3 y4) e.E why2 h20
              rw [← hX.P] at h20k
              refine .inl (vcall_pure _ (by rw [hX.P]; exact is_ref32_Why.enters) h20k (fun H => (by simp [El2, El3, El4, Ev, El, Eb, Et, h2, h4, h9, h12, h13, h14a, h14b, h14c, h14d, h16])) ?_)
              refine run_go 1000 _ _ _ _ ?_
              simp only [Erun, Ek, Ev, El, Ea, Eu, hX.res, hX.Q, List.getElem?_cons_zero, List.getElem?_cons_succ, seval, Et, h2, h4, h9, h12, h13, h14a, h14b, h14c, h14d, h16]
              repeat (with_reducible refine And.intro (by first | assumption | omega | (simp only [i64in] at *; omega)) ?_)
              by_cases h21 : (why != why2) = true
              · rw [if_pos h21] at hsh
                simp only [Erun, Ek, Ev, El, Ea, Eu, hX.res, hX.Q, List.getElem?_cons_zero, List.getElem?_cons_succ, seval, Et, h2, h4, h9, h12, h13, h14a, h14b, h14c, h14d, h16, h21]
                repeat (with_reducible refine And.intro (by first | assumption | omega | (simp only [i64in] at *; omega)) ?_)
                obtain rfl := Option.some.inj hsh
                refine post_give [] ?_
                simp [El2, El3, El4, Ev, El, Eb, Et, h2, h4, h9, h12, h13, h14a, h14b, h14c, h14d, h16, h21]
              · rw [if_neg h21] at hsh; replace h21 := neg_b h21
                simp only [Erun, Ek, Ev, El, Ea, Eu, hX.res, hX.Q, List.getElem?_cons_zero, List.getElem?_cons_succ, seval, Et, h2, h4, h9, h12, h13, h14a, h14b, h14c, h14d, h16, h21]
                repeat (with_reducible refine And.intro (by first | assumption | omega | (simp only [i64in] at *; omega)) ?_)
                by_cases h22 : (e.Kind == 0) = true
                · rw [if_pos h22] at hsh
                  simp only [Erun, Ek, Ev, El, Ea, Eu, hX.res, hX.Q, List.getElem?_cons_zero, List.getElem?_cons_succ, seval, Et, h2, h4, h9, h12, h13, h14a, h14b, h14c, h14d, h16, h21, h22]
                  repeat (with_reducible refine And.intro (by first | assumption | omega | (simp only [i64in] at *; omega)) ?_)
                  obtain ⟨acce, h23, hsh⟩ := Option.bind_eq_some_iff.1 hsh
                  have h23k := c_gate_Gate_Accept N (gate_Gate.mk y y2) own2 acce h23
                  rw [← hX.P] at h23k
                  refine .inl (vcall_pure _ (by rw [hX.P]; exact is_gate_Gate_Accept.enters) h23k (fun H => (by simp [El2, El3, El4, Ev, El, Eb, Et, h2, h4, h9, h12, h13, h14a, h14b, h14c, h14d, h16, h21, h22])) ?_)
                  refine run_go 1000 _ _ _ _ ?_
                  simp only [Erun, Ek, Ev, El, Ea, Eu, hX.res, hX.Q, List.getElem?_cons_zero, List.getElem?_cons_succ, seval, Et, h2, h4, h9, h12, h13, h14a, h14b, h14c, h14d, h16, h21, h22]
                  repeat (with_reducible refine And.intro (by first | assumption | omega | (simp only [i64in] at *; omega)) ?_)
                  obtain ⟨acce2, h24, hsh⟩ := Option.bind_eq_some_iff.1 hsh
                  have h24k := c_ref32_Accept N (gate_Gate.mk y3 y4) e.E acce2 h24
                  rw [← hX.P] at h24k
                  refine .inl (vcall_pure _ (by rw [hX.P]; exact is_ref32_Accept.enters) h24k (fun H => (by simp [El2, El3, El4, Ev, El, Eb, Et, h2, h4, h9, h12, h13, h14a, h14b, h14c, h14d, h16, h21, h22])) ?_)
                  refine run_go 1000 _ _ _ _ ?_
                  simp only [Erun, Ek, Ev, El, Ea, Eu, hX.res, hX.Q, List.getElem?_cons_zero, List.getElem?_cons_succ, seval, Et, h2, h4, h9, h12, h13, h14a, h14b, h14c, h14d, h16, h21, h22]
                  repeat (with_reducible refine And.intro (by first | assumption | omega | (simp only [i64in] at *; omega)) ?_)
                  by_cases h25 : (acce.2 != acce2.2) = true
                  · rw [if_pos h25] at hsh
                    simp only [Erun, Ek, Ev, El, Ea, Eu, hX.res, hX.Q, List.getElem?_cons_zero, List.getElem?_cons_succ, seval, Et, h2, h4, h9, h12, h13, h14a, h14b, h14c, h14d, h16, h21, h22, h25]
                    repeat (with_reducible refine And.intro (by first | assumption | omega | (simp only [i64in] at *; omega)) ?_)
                    obtain rfl := Option.some.inj hsh
                    refine post_give [] ?_
                    simp [El2, El3, El4, Ev, El, Eb, Et, h2, h4, h9, h12, h13, h14a, h14b, h14c, h14d, h16, h21, h22, h25]
                  · rw [if_neg h25] at hsh; replace h25 := neg_b h25
                    simp only [Erun, Ek, Ev, El, Ea, Eu, hX.res, hX.Q, List.getElem?_cons_zero, List.getElem?_cons_succ, seval, Et, h2, h4, h9, h12, h13, h14a, h14b, h14c, h14d, h16, h21, h22, h25]
                    repeat (with_reducible refine And.intro (by first | assumption | omega | (simp only [i64in] at *; omega)) ?_)
                    obtain ⟨back2, h26, hsh⟩ := Option.bind_eq_some_iff.1 hsh
                    have h26k := c_law32_Back N acce.1 back2 h26
                    rw [← hX.P] at h26k
                    refine .inl (vcall_pure _ (by rw [hX.P]; exact is_law32_Back.enters) h26k (fun H => (by simp [El2, El3, El4, Ev, El, Eb, Et, h2, h4, h9, h12, h13, h14a, h14b, h14c, h14d, h16, h21, h22, h25])) ?_)
                    refine run_go 1000 _ _ _ _ ?_
                    simp only [Erun, Ek, Ev, El, Ea, Eu, hX.res, hX.Q, List.getElem?_cons_zero, List.getElem?_cons_succ, seval, Et, h2, h4, h9, h12, h13, h14a, h14b, h14c, h14d, h16, h21, h22, h25]
                    repeat (with_reducible refine And.intro (by first | assumption | omega | (simp only [i64in] at *; omega)) ?_)
                    obtain ⟨same2, h27, hsh⟩ := Option.bind_eq_some_iff.1 hsh
                    have h27k := c_ref32_Same N back2 acce2.1 same2 h27
                    rw [← hX.P] at h27k
                    refine .inl (vcall_pure _ (by rw [hX.P]; exact is_ref32_Same.enters) h27k (fun H => (by simp [El2, El3, El4, Ev, El, Eb, Et, h2, h4, h9, h12, h13, h14a, h14b, h14c, h14d, h16, h21, h22, h25])) ?_)
                    refine run_go 1000 _ _ _ _ ?_
                    simp only [Erun, Ek, Ev, El, Ea, Eu, hX.res, hX.Q, List.getElem?_cons_zero, List.getElem?_cons_succ, seval, Et, h2, h4, h9, h12, h13, h14a, h14b, h14c, h14d, h16, h21, h22, h25]
                    repeat (with_reducible refine And.intro (by first | assumption | omega | (simp only [i64in] at *; omega)) ?_)
                    by_cases h28 : same2 = true
                    · rw [if_pos h28] at hsh
                      simp only [Erun, Ek, Ev, El, Ea, Eu, hX.res, hX.Q, List.getElem?_cons_zero, List.getElem?_cons_succ, seval, Et, h2, h4, h9, h12, h13, h14a, h14b, h14c, h14d, h16, h21, h22, h25, h28]
                      repeat (with_reducible refine And.intro (by first | assumption | omega | (simp only [i64in] at *; omega)) ?_)
                      obtain ⟨leas, h29, hsh⟩ := Option.bind_eq_some_iff.1 hsh
                      have h29k := c_gate_Gate_Least N acce.1 leas h29
                      rw [← hX.P] at h29k
                      refine .inl (vcall_pure _ (by rw [hX.P]; exact is_gate_Gate_Least.enters) h29k (fun H => (by simp [El2, El3, El4, Ev, El, Eb, Et, h2, h4, h9, h12, h13, h14a, h14b, h14c, h14d, h16, h21, h22, h25, h28])) ?_)
                      refine run_go 1000 _ _ _ _ ?_
                      simp only [Erun, Ek, Ev, El, Ea, Eu, hX.res, hX.Q, List.getElem?_cons_zero, List.getElem?_cons_succ, seval, Et, h2, h4, h9, h12, h13, h14a, h14b, h14c, h14d, h16, h21, h22, h25, h28]
                      repeat (with_reducible refine And.intro (by first | assumption | omega | (simp only [i64in] at *; omega)) ?_)
                      obtain ⟨leas2, h30, hsh⟩ := Option.bind_eq_some_iff.1 hsh
                      have h30k := c_ref32_Least N acce2.1 leas2 h30
                      rw [← hX.P] at h30k
                      refine .inl (vcall_pure _ (by rw [hX.P]; exact is_ref32_Least.enters) h30k (fun H => (by simp [El2, El3, El4, Ev, El, Eb, Et, h2, h4, h9, h12, h13, h14a, h14b, h14c, h14d, h16, h21, h22, h25, h28])) ?_)
                      refine run_go 1000 _ _ _ _ ?_
                      simp only [Erun, Ek, Ev, El, Ea, Eu, hX.res, hX.Q, List.getElem?_cons_zero, List.getElem?_cons_succ, seval, Et, h2, h4, h9, h12, h13, h14a, h14b, h14c, h14d, h16, h21, h22, h25, h28]
                      repeat (with_reducible refine And.intro (by first | assumption | omega | (simp only [i64in] at *; omega)) ?_)
                      by_cases h31 : (leas != leas2) = true
                      · rw [if_pos h31] at hsh
                        simp only [Erun, Ek, Ev, El, Ea, Eu, hX.res, hX.Q, List.getElem?_cons_zero, List.getElem?_cons_succ, seval, Et, h2, h4, h9, h12, h13, h14a, h14b, h14c, h14d, h16, h21, h22, h25, h28, h31]
                        repeat (with_reducible refine And.intro (by first | assumption | omega | (simp only [i64in] at *; omega)) ?_)
                        obtain rfl := Option.some.inj hsh
                        refine post_give [] ?_
                        simp [El2, El3, El4, Ev, El, Eb, Et, h2, h4, h9, h12, h13, h14a, h14b, h14c, h14d, h16, h21, h22, h25, h28, h31]
                      · rw [if_neg h31] at hsh; replace h31 := neg_b h31
                        simp only [Erun, Ek, Ev, El, Ea, Eu, hX.res, hX.Q, List.getElem?_cons_zero, List.getElem?_cons_succ, seval, Et, h2, h4, h9, h12, h13, h14a, h14b, h14c, h14d, h16, h21, h22, h25, h28, h31]
                        repeat (with_reducible refine And.intro (by first | assumption | omega | (simp only [i64in] at *; omega)) ?_)
                        obtain ⟨same3, h32, hsh⟩ := Option.bind_eq_some_iff.1 hsh
                        have h32k := c_gate_Same N (gate_Gate.mk y y2) acce.1 same3 h32
                        rw [← hX.P] at h32k
                        refine .inl (vcall_pure _ (by rw [hX.P]; exact is_gate_Same.enters) h32k (fun H => (by simp [El2, El3, El4, Ev, El, Eb, Et, h2, h4, h9, h12, h13, h14a, h14b, h14c, h14d, h16, h21, h22, h25, h28, h31])) ?_)
                        refine run_go 1000 _ _ _ _ ?_
                        simp only [Erun, Ek, Ev, El, Ea, Eu, hX.res, hX.Q, List.getElem?_cons_zero, List.getElem?_cons_succ, seval, Et, h2, h4, h9, h12, h13, h14a, h14b, h14c, h14d, h16, h21, h22, h25, h28, h31]
                        repeat (with_reducible refine And.intro (by first | assumption | omega | (simp only [i64in] at *; omega)) ?_)
                        obtain ⟨back3, h33, hsh⟩ := Option.bind_eq_some_iff.1 hsh
                        have h33k := c_law32_Back N (gate_Gate.mk y y2) back3 h33
                        rw [← hX.P] at h33k
                        refine .inl (vcall_pure _ (by rw [hX.P]; exact is_law32_Back.enters) h33k (fun H => (by simp [El2, El3, El4, Ev, El, Eb, Et, h2, h4, h9, h12, h13, h14a, h14b, h14c, h14d, h16, h21, h22, h25, h28, h31])) ?_)
                        refine run_go 1000 _ _ _ _ ?_
                        simp only [Erun, Ek, Ev, El, Ea, Eu, hX.res, hX.Q, List.getElem?_cons_zero, List.getElem?_cons_succ, seval, Et, h2, h4, h9, h12, h13, h14a, h14b, h14c, h14d, h16, h21, h22, h25, h28, h31]
                        repeat (with_reducible refine And.intro (by first | assumption | omega | (simp only [i64in] at *; omega)) ?_)
                        obtain ⟨same4, h34, hsh⟩ := Option.bind_eq_some_iff.1 hsh
                        have h34k := c_ref32_Same N back3 acce2.1 same4 h34
                        rw [← hX.P] at h34k
                        refine .inl (vcall_pure _ (by rw [hX.P]; exact is_ref32_Same.enters) h34k (fun H => (by simp [El2, El3, El4, Ev, El, Eb, Et, h2, h4, h9, h12, h13, h14a, h14b, h14c, h14d, h16, h21, h22, h25, h28, h31])) ?_)
                        refine run_go 1000 _ _ _ _ ?_
                        simp only [Erun, Ek, Ev, El, Ea, Eu, hX.res, hX.Q, List.getElem?_cons_zero, List.getElem?_cons_succ, seval, Et, h2, h4, h9, h12, h13, h14a, h14b, h14c, h14d, h16, h21, h22, h25, h28, h31]
                        repeat (with_reducible refine And.intro (by first | assumption | omega | (simp only [i64in] at *; omega)) ?_)
                        by_cases h35 : (same3 == same4) = true
                        · rw [if_pos h35] at hsh
                          obtain ⟨h36, hsh⟩ := guard_some hsh
                          simp only [Erun, Ek, Ev, El, Ea, Eu, hX.res, hX.Q, List.getElem?_cons_zero, List.getElem?_cons_succ, seval, Et, h2, h4, h9, h12, h13, h14a, h14b, h14c, h14d, h16, h21, h22, h25, h28, h31, h35, h36]
                          repeat (with_reducible refine And.intro (by first | assumption | omega | (simp only [i64in] at *; omega)) ?_)
                          exact go_lessG hX [] [0, 1] [] _ _ (by rfl) (by rfl) (by simp [El2, El3, El4, Ev, El, Eb, Et, h2, h4, h9, h12, h13, h14a, h14b, h14c, h14d, h16, h21, h22, h25, h28, h31, h35, h36]) (by simp [El2, El3, El4, Ev, El, Eb, Et, h2, h4, h9, h12, h13, h14a, h14b, h14c, h14d, h16, h21, h22, h25, h28, h31, h35, h36]) (by rfl) (by rfl) (by simp [El2, El3, El4, Ev, El, Eb, Et, h2, h4, h9, h12, h13, h14a, h14b, h14c, h14d, h16, h21, h22, h25, h28, h31, h35, h36]) (ih1 (i + 1) acce.1.Types acce.1.L acce2.1.Types acce2.1.L hsh)
                        · rw [if_neg h35] at hsh; replace h35 := neg_b h35
                          simp only [Erun, Ek, Ev, El, Ea, Eu, hX.res, hX.Q, List.getElem?_cons_zero, List.getElem?_cons_succ, seval, Et, h2, h4, h9, h12, h13, h14a, h14b, h14c, h14d, h16, h21, h22, h25, h28, h31, h35]
                          repeat (with_reducible refine And.intro (by first | assumption | omega | (simp only [i64in] at *; omega)) ?_)
                          obtain rfl := Option.some.inj hsh
                          refine post_give [] ?_
                          simp [El2, El3, El4, Ev, El, Eb, Et, h2, h4, h9, h12, h13, h14a, h14b, h14c, h14d, h16, h21, h22, h25, h28, h31, h35]
                    · rw [if_neg h28] at hsh; replace h28 := neg_b h28
                      simp only [Erun, Ek, Ev, El, Ea, Eu, hX.res, hX.Q, List.getElem?_cons_zero, List.getElem?_cons_succ, seval, Et, h2, h4, h9, h12, h13, h14a, h14b, h14c, h14d, h16, h21, h22, h25, h28]
                      repeat (with_reducible refine And.intro (by first | assumption | omega | (simp only [i64in] at *; omega)) ?_)
                      obtain rfl := Option.some.inj hsh
                      refine post_give [] ?_
                      simp [El2, El3, El4, Ev, El, Eb, Et, h2, h4, h9, h12, h13, h14a, h14b, h14c, h14d, h16, h21, h22, h25, h28]
                · rw [if_neg h22] at hsh; replace h22 := neg_b h22
                  simp only [Erun, Ek, Ev, El, Ea, Eu, hX.res, hX.Q, List.getElem?_cons_zero, List.getElem?_cons_succ, seval, Et, h2, h4, h9, h12, h13, h14a, h14b, h14c, h14d, h16, h21, h22]
                  repeat (with_reducible refine And.intro (by first | assumption | omega | (simp only [i64in] at *; omega)) ?_)
                  by_cases h37 : (e.Kind == 1) = true
                  · rw [if_pos h37] at hsh
                    simp only [Erun, Ek, Ev, El, Ea, Eu, hX.res, hX.Q, List.getElem?_cons_zero, List.getElem?_cons_succ, seval, Et, h2, h4, h9, h12, h13, h14a, h14b, h14c, h14d, h16, h21, h22, h37]
                    repeat (with_reducible refine And.intro (by first | assumption | omega | (simp only [i64in] at *; omega)) ?_)
                    obtain ⟨adva, h38, hsh⟩ := Option.bind_eq_some_iff.1 hsh
                    have h38k := c_gate_Gate_Advance N (gate_Gate.mk y y2) e.S e.A adva h38
                    rw [← hX.P] at h38k
                    refine .inl (vcall_pure _ (by rw [hX.P]; exact is_gate_Gate_Advance.enters) h38k (fun H => (by simp [El2, El3, El4, Ev, El, Eb, Et, h2, h4, h9, h12, h13, h14a, h14b, h14c, h14d, h16, h21, h22, h37])) ?_)
                    refine run_go 1000 _ _ _ _ ?_
                    simp only [Erun, Ek, Ev, El, Ea, Eu, hX.res, hX.Q, List.getElem?_cons_zero, List.getElem?_cons_succ, seval, Et, h2, h4, h9, h12, h13, h14a, h14b, h14c, h14d, h16, h21, h22, h37]
                    repeat (with_reducible refine And.intro (by first | assumption | omega | (simp only [i64in] at *; omega)) ?_)
                    obtain ⟨adva2, h39, hsh⟩ := Option.bind_eq_some_iff.1 hsh
                    have h39k := c_ref32_Advance N (gate_Gate.mk y3 y4) e.S e.A adva2 h39
                    rw [← hX.P] at h39k
                    refine .inl (vcall_pure _ (by rw [hX.P]; exact is_ref32_Advance.enters) h39k (fun H => (by simp [El2, El3, El4, Ev, El, Eb, Et, h2, h4, h9, h12, h13, h14a, h14b, h14c, h14d, h16, h21, h22, h37])) ?_)
                    refine run_go 1000 _ _ _ _ ?_
                    simp only [Erun, Ek, Ev, El, Ea, Eu, hX.res, hX.Q, List.getElem?_cons_zero, List.getElem?_cons_succ, seval, Et, h2, h4, h9, h12, h13, h14a, h14b, h14c, h14d, h16, h21, h22, h37]
                    repeat (with_reducible refine And.intro (by first | assumption | omega | (simp only [i64in] at *; omega)) ?_)
                    by_cases h40 : (adva.2 != adva2.2) = true
                    · rw [if_pos h40] at hsh
                      simp only [Erun, Ek, Ev, El, Ea, Eu, hX.res, hX.Q, List.getElem?_cons_zero, List.getElem?_cons_succ, seval, Et, h2, h4, h9, h12, h13, h14a, h14b, h14c, h14d, h16, h21, h22, h37, h40]
                      repeat (with_reducible refine And.intro (by first | assumption | omega | (simp only [i64in] at *; omega)) ?_)
                      obtain rfl := Option.some.inj hsh
                      refine post_give [] ?_
                      simp [El2, El3, El4, Ev, El, Eb, Et, h2, h4, h9, h12, h13, h14a, h14b, h14c, h14d, h16, h21, h22, h37, h40]
                    · rw [if_neg h40] at hsh; replace h40 := neg_b h40
                      simp only [Erun, Ek, Ev, El, Ea, Eu, hX.res, hX.Q, List.getElem?_cons_zero, List.getElem?_cons_succ, seval, Et, h2, h4, h9, h12, h13, h14a, h14b, h14c, h14d, h16, h21, h22, h37, h40]
                      repeat (with_reducible refine And.intro (by first | assumption | omega | (simp only [i64in] at *; omega)) ?_)
                      obtain ⟨back4, h41, hsh⟩ := Option.bind_eq_some_iff.1 hsh
                      have h41k := c_law32_Back N adva.1 back4 h41
                      rw [← hX.P] at h41k
                      refine .inl (vcall_pure _ (by rw [hX.P]; exact is_law32_Back.enters) h41k (fun H => (by simp [El2, El3, El4, Ev, El, Eb, Et, h2, h4, h9, h12, h13, h14a, h14b, h14c, h14d, h16, h21, h22, h37, h40])) ?_)
                      refine run_go 1000 _ _ _ _ ?_
                      simp only [Erun, Ek, Ev, El, Ea, Eu, hX.res, hX.Q, List.getElem?_cons_zero, List.getElem?_cons_succ, seval, Et, h2, h4, h9, h12, h13, h14a, h14b, h14c, h14d, h16, h21, h22, h37, h40]
                      repeat (with_reducible refine And.intro (by first | assumption | omega | (simp only [i64in] at *; omega)) ?_)
                      obtain ⟨same5, h42, hsh⟩ := Option.bind_eq_some_iff.1 hsh
                      have h42k := c_ref32_Same N back4 adva2.1 same5 h42
                      rw [← hX.P] at h42k
                      refine .inl (vcall_pure _ (by rw [hX.P]; exact is_ref32_Same.enters) h42k (fun H => (by simp [El2, El3, El4, Ev, El, Eb, Et, h2, h4, h9, h12, h13, h14a, h14b, h14c, h14d, h16, h21, h22, h37, h40])) ?_)
                      refine run_go 1000 _ _ _ _ ?_
                      simp only [Erun, Ek, Ev, El, Ea, Eu, hX.res, hX.Q, List.getElem?_cons_zero, List.getElem?_cons_succ, seval, Et, h2, h4, h9, h12, h13, h14a, h14b, h14c, h14d, h16, h21, h22, h37, h40]
                      repeat (with_reducible refine And.intro (by first | assumption | omega | (simp only [i64in] at *; omega)) ?_)
                      by_cases h43 : same5 = true
                      · rw [if_pos h43] at hsh
                        simp only [Erun, Ek, Ev, El, Ea, Eu, hX.res, hX.Q, List.getElem?_cons_zero, List.getElem?_cons_succ, seval, Et, h2, h4, h9, h12, h13, h14a, h14b, h14c, h14d, h16, h21, h22, h37, h40, h43]
                        repeat (with_reducible refine And.intro (by first | assumption | omega | (simp only [i64in] at *; omega)) ?_)
                        obtain ⟨leas3, h44, hsh⟩ := Option.bind_eq_some_iff.1 hsh
                        have h44k := c_gate_Gate_Least N adva.1 leas3 h44
                        rw [← hX.P] at h44k
                        refine .inl (vcall_pure _ (by rw [hX.P]; exact is_gate_Gate_Least.enters) h44k (fun H => (by simp [El2, El3, El4, Ev, El, Eb, Et, h2, h4, h9, h12, h13, h14a, h14b, h14c, h14d, h16, h21, h22, h37, h40, h43])) ?_)
                        refine run_go 1000 _ _ _ _ ?_
                        simp only [Erun, Ek, Ev, El, Ea, Eu, hX.res, hX.Q, List.getElem?_cons_zero, List.getElem?_cons_succ, seval, Et, h2, h4, h9, h12, h13, h14a, h14b, h14c, h14d, h16, h21, h22, h37, h40, h43]
                        repeat (with_reducible refine And.intro (by first | assumption | omega | (simp only [i64in] at *; omega)) ?_)
                        obtain ⟨leas4, h45, hsh⟩ := Option.bind_eq_some_iff.1 hsh
                        have h45k := c_ref32_Least N adva2.1 leas4 h45
                        rw [← hX.P] at h45k
                        refine .inl (vcall_pure _ (by rw [hX.P]; exact is_ref32_Least.enters) h45k (fun H => (by simp [El2, El3, El4, Ev, El, Eb, Et, h2, h4, h9, h12, h13, h14a, h14b, h14c, h14d, h16, h21, h22, h37, h40, h43])) ?_)
                        refine run_go 1000 _ _ _ _ ?_
                        simp only [Erun, Ek, Ev, El, Ea, Eu, hX.res, hX.Q, List.getElem?_cons_zero, List.getElem?_cons_succ, seval, Et, h2, h4, h9, h12, h13, h14a, h14b, h14c, h14d, h16, h21, h22, h37, h40, h43]
                        repeat (with_reducible refine And.intro (by first | assumption | omega | (simp only [i64in] at *; omega)) ?_)
                        by_cases h46 : (leas3 != leas4) = true
                        · rw [if_pos h46] at hsh
                          simp only [Erun, Ek, Ev, El, Ea, Eu, hX.res, hX.Q, List.getElem?_cons_zero, List.getElem?_cons_succ, seval, Et, h2, h4, h9, h12, h13, h14a, h14b, h14c, h14d, h16, h21, h22, h37, h40, h43, h46]
                          repeat (with_reducible refine And.intro (by first | assumption | omega | (simp only [i64in] at *; omega)) ?_)
                          obtain rfl := Option.some.inj hsh
                          refine post_give [] ?_
                          simp [El2, El3, El4, Ev, El, Eb, Et, h2, h4, h9, h12, h13, h14a, h14b, h14c, h14d, h16, h21, h22, h37, h40, h43, h46]
                        · rw [if_neg h46] at hsh; replace h46 := neg_b h46
                          simp only [Erun, Ek, Ev, El, Ea, Eu, hX.res, hX.Q, List.getElem?_cons_zero, List.getElem?_cons_succ, seval, Et, h2, h4, h9, h12, h13, h14a, h14b, h14c, h14d, h16, h21, h22, h37, h40, h43, h46]
                          repeat (with_reducible refine And.intro (by first | assumption | omega | (simp only [i64in] at *; omega)) ?_)
                          obtain ⟨same6, h47, hsh⟩ := Option.bind_eq_some_iff.1 hsh
                          have h47k := c_gate_Same N (gate_Gate.mk y y2) adva.1 same6 h47
                          rw [← hX.P] at h47k
                          refine .inl (vcall_pure _ (by rw [hX.P]; exact is_gate_Same.enters) h47k (fun H => (by simp [El2, El3, El4, Ev, El, Eb, Et, h2, h4, h9, h12, h13, h14a, h14b, h14c, h14d, h16, h21, h22, h37, h40, h43, h46])) ?_)
                          refine run_go 1000 _ _ _ _ ?_
                          simp only [Erun, Ek, Ev, El, Ea, Eu, hX.res, hX.Q, List.getElem?_cons_zero, List.getElem?_cons_succ, seval, Et, h2, h4, h9, h12, h13, h14a, h14b, h14c, h14d, h16, h21, h22, h37, h40, h43, h46]
                          repeat (with_reducible refine And.intro (by first | assumption | omega | (simp only [i64in] at *; omega)) ?_)
                          obtain ⟨back5, h48, hsh⟩ := Option.bind_eq_some_iff.1 hsh
                          have h48k := c_law32_Back N (gate_Gate.mk y y2) back5 h48
                          rw [← hX.P] at h48k
                          refine .inl (vcall_pure _ (by rw [hX.P]; exact is_law32_Back.enters) h48k (fun H => (by simp [El2, El3, El4, Ev, El, Eb, Et, h2, h4, h9, h12, h13, h14a, h14b, h14c, h14d, h16, h21, h22, h37, h40, h43, h46])) ?_)
                          refine run_go 1000 _ _ _ _ ?_
                          simp only [Erun, Ek, Ev, El, Ea, Eu, hX.res, hX.Q, List.getElem?_cons_zero, List.getElem?_cons_succ, seval, Et, h2, h4, h9, h12, h13, h14a, h14b, h14c, h14d, h16, h21, h22, h37, h40, h43, h46]
                          repeat (with_reducible refine And.intro (by first | assumption | omega | (simp only [i64in] at *; omega)) ?_)
                          obtain ⟨same7, h49, hsh⟩ := Option.bind_eq_some_iff.1 hsh
                          have h49k := c_ref32_Same N back5 adva2.1 same7 h49
                          rw [← hX.P] at h49k
                          refine .inl (vcall_pure _ (by rw [hX.P]; exact is_ref32_Same.enters) h49k (fun H => (by simp [El2, El3, El4, Ev, El, Eb, Et, h2, h4, h9, h12, h13, h14a, h14b, h14c, h14d, h16, h21, h22, h37, h40, h43, h46])) ?_)
                          refine run_go 1000 _ _ _ _ ?_
                          simp only [Erun, Ek, Ev, El, Ea, Eu, hX.res, hX.Q, List.getElem?_cons_zero, List.getElem?_cons_succ, seval, Et, h2, h4, h9, h12, h13, h14a, h14b, h14c, h14d, h16, h21, h22, h37, h40, h43, h46]
                          repeat (with_reducible refine And.intro (by first | assumption | omega | (simp only [i64in] at *; omega)) ?_)
                          by_cases h50 : (same6 == same7) = true
                          · rw [if_pos h50] at hsh
                            obtain ⟨h51, hsh⟩ := guard_some hsh
                            simp only [Erun, Ek, Ev, El, Ea, Eu, hX.res, hX.Q, List.getElem?_cons_zero, List.getElem?_cons_succ, seval, Et, h2, h4, h9, h12, h13, h14a, h14b, h14c, h14d, h16, h21, h22, h37, h40, h43, h46, h50, h51]
                            repeat (with_reducible refine And.intro (by first | assumption | omega | (simp only [i64in] at *; omega)) ?_)
                            exact go_lessG hX [] [0, 1] [] _ _ (by rfl) (by rfl) (by simp [El2, El3, El4, Ev, El, Eb, Et, h2, h4, h9, h12, h13, h14a, h14b, h14c, h14d, h16, h21, h22, h37, h40, h43, h46, h50, h51]) (by simp [El2, El3, El4, Ev, El, Eb, Et, h2, h4, h9, h12, h13, h14a, h14b, h14c, h14d, h16, h21, h22, h37, h40, h43, h46, h50, h51]) (by rfl) (by rfl) (by simp [El2, El3, El4, Ev, El, Eb, Et, h2, h4, h9, h12, h13, h14a, h14b, h14c, h14d, h16, h21, h22, h37, h40, h43, h46, h50, h51]) (ih1 (i + 1) adva.1.Types adva.1.L adva2.1.Types adva2.1.L hsh)
                          · rw [if_neg h50] at hsh; replace h50 := neg_b h50
                            simp only [Erun, Ek, Ev, El, Ea, Eu, hX.res, hX.Q, List.getElem?_cons_zero, List.getElem?_cons_succ, seval, Et, h2, h4, h9, h12, h13, h14a, h14b, h14c, h14d, h16, h21, h22, h37, h40, h43, h46, h50]
                            repeat (with_reducible refine And.intro (by first | assumption | omega | (simp only [i64in] at *; omega)) ?_)
                            obtain rfl := Option.some.inj hsh
                            refine post_give [] ?_
                            simp [El2, El3, El4, Ev, El, Eb, Et, h2, h4, h9, h12, h13, h14a, h14b, h14c, h14d, h16, h21, h22, h37, h40, h43, h46, h50]
                      · rw [if_neg h43] at hsh; replace h43 := neg_b h43
                        simp only [Erun, Ek, Ev, El, Ea, Eu, hX.res, hX.Q, List.getElem?_cons_zero, List.getElem?_cons_succ, seval, Et, h2, h4, h9, h12, h13, h14a, h14b, h14c, h14d, h16, h21, h22, h37, h40, h43]
                        repeat (with_reducible refine And.intro (by first | assumption | omega | (simp only [i64in] at *; omega)) ?_)
                        obtain rfl := Option.some.inj hsh
                        refine post_give [] ?_
                        simp [El2, El3, El4, Ev, El, Eb, Et, h2, h4, h9, h12, h13, h14a, h14b, h14c, h14d, h16, h21, h22, h37, h40, h43]
                  · rw [if_neg h37] at hsh; replace h37 := neg_b h37
                    simp only [Erun, Ek, Ev, El, Ea, Eu, hX.res, hX.Q, List.getElem?_cons_zero, List.getElem?_cons_succ, seval, Et, h2, h4, h9, h12, h13, h14a, h14b, h14c, h14d, h16, h21, h22, h37]
                    repeat (with_reducible refine And.intro (by first | assumption | omega | (simp only [i64in] at *; omega)) ?_)
                    obtain ⟨clos, h52, hsh⟩ := Option.bind_eq_some_iff.1 hsh
                    have h52k := c_gate_Gate_Close N (gate_Gate.mk y y2) e.S clos h52
                    rw [← hX.P] at h52k
                    refine .inl (vcall_pure _ (by rw [hX.P]; exact is_gate_Gate_Close.enters) h52k (fun H => (by simp [El2, El3, El4, Ev, El, Eb, Et, h2, h4, h9, h12, h13, h14a, h14b, h14c, h14d, h16, h21, h22, h37])) ?_)
                    refine run_go 1000 _ _ _ _ ?_
                    simp only [Erun, Ek, Ev, El, Ea, Eu, hX.res, hX.Q, List.getElem?_cons_zero, List.getElem?_cons_succ, seval, Et, h2, h4, h9, h12, h13, h14a, h14b, h14c, h14d, h16, h21, h22, h37]
                    repeat (with_reducible refine And.intro (by first | assumption | omega | (simp only [i64in] at *; omega)) ?_)
                    obtain ⟨clos2, h53, hsh⟩ := Option.bind_eq_some_iff.1 hsh
                    have h53k := c_ref32_Close N (gate_Gate.mk y3 y4) e.S clos2 h53
                    rw [← hX.P] at h53k
                    refine .inl (vcall_pure _ (by rw [hX.P]; exact is_ref32_Close.enters) h53k (fun H => (by simp [El2, El3, El4, Ev, El, Eb, Et, h2, h4, h9, h12, h13, h14a, h14b, h14c, h14d, h16, h21, h22, h37])) ?_)
                    refine run_go 1000 _ _ _ _ ?_
                    simp only [Erun, Ek, Ev, El, Ea, Eu, hX.res, hX.Q, List.getElem?_cons_zero, List.getElem?_cons_succ, seval, Et, h2, h4, h9, h12, h13, h14a, h14b, h14c, h14d, h16, h21, h22, h37]
                    repeat (with_reducible refine And.intro (by first | assumption | omega | (simp only [i64in] at *; omega)) ?_)
                    by_cases h54 : (clos.2 != clos2.2) = true
                    · rw [if_pos h54] at hsh
                      simp only [Erun, Ek, Ev, El, Ea, Eu, hX.res, hX.Q, List.getElem?_cons_zero, List.getElem?_cons_succ, seval, Et, h2, h4, h9, h12, h13, h14a, h14b, h14c, h14d, h16, h21, h22, h37, h54]
                      repeat (with_reducible refine And.intro (by first | assumption | omega | (simp only [i64in] at *; omega)) ?_)
                      obtain rfl := Option.some.inj hsh
                      refine post_give [] ?_
                      simp [El2, El3, El4, Ev, El, Eb, Et, h2, h4, h9, h12, h13, h14a, h14b, h14c, h14d, h16, h21, h22, h37, h54]
                    · rw [if_neg h54] at hsh; replace h54 := neg_b h54
                      simp only [Erun, Ek, Ev, El, Ea, Eu, hX.res, hX.Q, List.getElem?_cons_zero, List.getElem?_cons_succ, seval, Et, h2, h4, h9, h12, h13, h14a, h14b, h14c, h14d, h16, h21, h22, h37, h54]
                      repeat (with_reducible refine And.intro (by first | assumption | omega | (simp only [i64in] at *; omega)) ?_)
                      obtain ⟨back6, h55, hsh⟩ := Option.bind_eq_some_iff.1 hsh
                      have h55k := c_law32_Back N clos.1 back6 h55
                      rw [← hX.P] at h55k
                      refine .inl (vcall_pure _ (by rw [hX.P]; exact is_law32_Back.enters) h55k (fun H => (by simp [El2, El3, El4, Ev, El, Eb, Et, h2, h4, h9, h12, h13, h14a, h14b, h14c, h14d, h16, h21, h22, h37, h54])) ?_)
                      refine run_go 1000 _ _ _ _ ?_
                      simp only [Erun, Ek, Ev, El, Ea, Eu, hX.res, hX.Q, List.getElem?_cons_zero, List.getElem?_cons_succ, seval, Et, h2, h4, h9, h12, h13, h14a, h14b, h14c, h14d, h16, h21, h22, h37, h54]
                      repeat (with_reducible refine And.intro (by first | assumption | omega | (simp only [i64in] at *; omega)) ?_)
                      obtain ⟨same8, h56, hsh⟩ := Option.bind_eq_some_iff.1 hsh
                      have h56k := c_ref32_Same N back6 clos2.1 same8 h56
                      rw [← hX.P] at h56k
                      refine .inl (vcall_pure _ (by rw [hX.P]; exact is_ref32_Same.enters) h56k (fun H => (by simp [El2, El3, El4, Ev, El, Eb, Et, h2, h4, h9, h12, h13, h14a, h14b, h14c, h14d, h16, h21, h22, h37, h54])) ?_)
                      refine run_go 1000 _ _ _ _ ?_
                      simp only [Erun, Ek, Ev, El, Ea, Eu, hX.res, hX.Q, List.getElem?_cons_zero, List.getElem?_cons_succ, seval, Et, h2, h4, h9, h12, h13, h14a, h14b, h14c, h14d, h16, h21, h22, h37, h54]
                      repeat (with_reducible refine And.intro (by first | assumption | omega | (simp only [i64in] at *; omega)) ?_)
                      by_cases h57 : same8 = true
                      · rw [if_pos h57] at hsh
                        simp only [Erun, Ek, Ev, El, Ea, Eu, hX.res, hX.Q, List.getElem?_cons_zero, List.getElem?_cons_succ, seval, Et, h2, h4, h9, h12, h13, h14a, h14b, h14c, h14d, h16, h21, h22, h37, h54, h57]
                        repeat (with_reducible refine And.intro (by first | assumption | omega | (simp only [i64in] at *; omega)) ?_)
                        obtain ⟨leas5, h58, hsh⟩ := Option.bind_eq_some_iff.1 hsh
                        have h58k := c_gate_Gate_Least N clos.1 leas5 h58
                        rw [← hX.P] at h58k
                        refine .inl (vcall_pure _ (by rw [hX.P]; exact is_gate_Gate_Least.enters) h58k (fun H => (by simp [El2, El3, El4, Ev, El, Eb, Et, h2, h4, h9, h12, h13, h14a, h14b, h14c, h14d, h16, h21, h22, h37, h54, h57])) ?_)
                        refine run_go 1000 _ _ _ _ ?_
                        simp only [Erun, Ek, Ev, El, Ea, Eu, hX.res, hX.Q, List.getElem?_cons_zero, List.getElem?_cons_succ, seval, Et, h2, h4, h9, h12, h13, h14a, h14b, h14c, h14d, h16, h21, h22, h37, h54, h57]
                        repeat (with_reducible refine And.intro (by first | assumption | omega | (simp only [i64in] at *; omega)) ?_)
                        obtain ⟨leas6, h59, hsh⟩ := Option.bind_eq_some_iff.1 hsh
                        have h59k := c_ref32_Least N clos2.1 leas6 h59
                        rw [← hX.P] at h59k
                        refine .inl (vcall_pure _ (by rw [hX.P]; exact is_ref32_Least.enters) h59k (fun H => (by simp [El2, El3, El4, Ev, El, Eb, Et, h2, h4, h9, h12, h13, h14a, h14b, h14c, h14d, h16, h21, h22, h37, h54, h57])) ?_)
                        refine run_go 1000 _ _ _ _ ?_
                        simp only [Erun, Ek, Ev, El, Ea, Eu, hX.res, hX.Q, List.getElem?_cons_zero, List.getElem?_cons_succ, seval, Et, h2, h4, h9, h12, h13, h14a, h14b, h14c, h14d, h16, h21, h22, h37, h54, h57]
                        repeat (with_reducible refine And.intro (by first | assumption | omega | (simp only [i64in] at *; omega)) ?_)
                        by_cases h60 : (leas5 != leas6) = true
                        · rw [if_pos h60] at hsh
                          simp only [Erun, Ek, Ev, El, Ea, Eu, hX.res, hX.Q, List.getElem?_cons_zero, List.getElem?_cons_succ, seval, Et, h2, h4, h9, h12, h13, h14a, h14b, h14c, h14d, h16, h21, h22, h37, h54, h57, h60]
                          repeat (with_reducible refine And.intro (by first | assumption | omega | (simp only [i64in] at *; omega)) ?_)
                          obtain rfl := Option.some.inj hsh
                          refine post_give [] ?_
                          simp [El2, El3, El4, Ev, El, Eb, Et, h2, h4, h9, h12, h13, h14a, h14b, h14c, h14d, h16, h21, h22, h37, h54, h57, h60]
                        · rw [if_neg h60] at hsh; replace h60 := neg_b h60
                          simp only [Erun, Ek, Ev, El, Ea, Eu, hX.res, hX.Q, List.getElem?_cons_zero, List.getElem?_cons_succ, seval, Et, h2, h4, h9, h12, h13, h14a, h14b, h14c, h14d, h16, h21, h22, h37, h54, h57, h60]
                          repeat (with_reducible refine And.intro (by first | assumption | omega | (simp only [i64in] at *; omega)) ?_)
                          obtain ⟨same9, h61, hsh⟩ := Option.bind_eq_some_iff.1 hsh
                          have h61k := c_gate_Same N (gate_Gate.mk y y2) clos.1 same9 h61
                          rw [← hX.P] at h61k
                          refine .inl (vcall_pure _ (by rw [hX.P]; exact is_gate_Same.enters) h61k (fun H => (by simp [El2, El3, El4, Ev, El, Eb, Et, h2, h4, h9, h12, h13, h14a, h14b, h14c, h14d, h16, h21, h22, h37, h54, h57, h60])) ?_)
                          refine run_go 1000 _ _ _ _ ?_
                          simp only [Erun, Ek, Ev, El, Ea, Eu, hX.res, hX.Q, List.getElem?_cons_zero, List.getElem?_cons_succ, seval, Et, h2, h4, h9, h12, h13, h14a, h14b, h14c, h14d, h16, h21, h22, h37, h54, h57, h60]
                          repeat (with_reducible refine And.intro (by first | assumption | omega | (simp only [i64in] at *; omega)) ?_)
                          obtain ⟨back7, h62, hsh⟩ := Option.bind_eq_some_iff.1 hsh
                          have h62k := c_law32_Back N (gate_Gate.mk y y2) back7 h62
                          rw [← hX.P] at h62k
                          refine .inl (vcall_pure _ (by rw [hX.P]; exact is_law32_Back.enters) h62k (fun H => (by simp [El2, El3, El4, Ev, El, Eb, Et, h2, h4, h9, h12, h13, h14a, h14b, h14c, h14d, h16, h21, h22, h37, h54, h57, h60])) ?_)
                          refine run_go 1000 _ _ _ _ ?_
                          simp only [Erun, Ek, Ev, El, Ea, Eu, hX.res, hX.Q, List.getElem?_cons_zero, List.getElem?_cons_succ, seval, Et, h2, h4, h9, h12, h13, h14a, h14b, h14c, h14d, h16, h21, h22, h37, h54, h57, h60]
                          repeat (with_reducible refine And.intro (by first | assumption | omega | (simp only [i64in] at *; omega)) ?_)
                          obtain ⟨same10, h63, hsh⟩ := Option.bind_eq_some_iff.1 hsh
                          have h63k := c_ref32_Same N back7 clos2.1 same10 h63
                          rw [← hX.P] at h63k
                          refine .inl (vcall_pure _ (by rw [hX.P]; exact is_ref32_Same.enters) h63k (fun H => (by simp [El2, El3, El4, Ev, El, Eb, Et, h2, h4, h9, h12, h13, h14a, h14b, h14c, h14d, h16, h21, h22, h37, h54, h57, h60])) ?_)
                          refine run_go 1000 _ _ _ _ ?_
                          simp only [Erun, Ek, Ev, El, Ea, Eu, hX.res, hX.Q, List.getElem?_cons_zero, List.getElem?_cons_succ, seval, Et, h2, h4, h9, h12, h13, h14a, h14b, h14c, h14d, h16, h21, h22, h37, h54, h57, h60]
                          repeat (with_reducible refine And.intro (by first | assumption | omega | (simp only [i64in] at *; omega)) ?_)
                          by_cases h64 : (same9 == same10) = true
                          · rw [if_pos h64] at hsh
                            obtain ⟨h65, hsh⟩ := guard_some hsh
                            simp only [Erun, Ek, Ev, El, Ea, Eu, hX.res, hX.Q, List.getElem?_cons_zero, List.getElem?_cons_succ, seval, Et, h2, h4, h9, h12, h13, h14a, h14b, h14c, h14d, h16, h21, h22, h37, h54, h57, h60, h64, h65]
                            repeat (with_reducible refine And.intro (by first | assumption | omega | (simp only [i64in] at *; omega)) ?_)
                            exact go_lessG hX [] [0, 1] [] _ _ (by rfl) (by rfl) (by simp [El2, El3, El4, Ev, El, Eb, Et, h2, h4, h9, h12, h13, h14a, h14b, h14c, h14d, h16, h21, h22, h37, h54, h57, h60, h64, h65]) (by simp [El2, El3, El4, Ev, El, Eb, Et, h2, h4, h9, h12, h13, h14a, h14b, h14c, h14d, h16, h21, h22, h37, h54, h57, h60, h64, h65]) (by rfl) (by rfl) (by simp [El2, El3, El4, Ev, El, Eb, Et, h2, h4, h9, h12, h13, h14a, h14b, h14c, h14d, h16, h21, h22, h37, h54, h57, h60, h64, h65]) (ih1 (i + 1) clos.1.Types clos.1.L clos2.1.Types clos2.1.L hsh)
                          · rw [if_neg h64] at hsh; replace h64 := neg_b h64
                            simp only [Erun, Ek, Ev, El, Ea, Eu, hX.res, hX.Q, List.getElem?_cons_zero, List.getElem?_cons_succ, seval, Et, h2, h4, h9, h12, h13, h14a, h14b, h14c, h14d, h16, h21, h22, h37, h54, h57, h60, h64]
                            repeat (with_reducible refine And.intro (by first | assumption | omega | (simp only [i64in] at *; omega)) ?_)
                            obtain rfl := Option.some.inj hsh
                            refine post_give [] ?_
                            simp [El2, El3, El4, Ev, El, Eb, Et, h2, h4, h9, h12, h13, h14a, h14b, h14c, h14d, h16, h21, h22, h37, h54, h57, h60, h64]
                      · rw [if_neg h57] at hsh; replace h57 := neg_b h57
                        simp only [Erun, Ek, Ev, El, Ea, Eu, hX.res, hX.Q, List.getElem?_cons_zero, List.getElem?_cons_succ, seval, Et, h2, h4, h9, h12, h13, h14a, h14b, h14c, h14d, h16, h21, h22, h37, h54, h57]
                        repeat (with_reducible refine And.intro (by first | assumption | omega | (simp only [i64in] at *; omega)) ?_)
                        obtain rfl := Option.some.inj hsh
                        refine post_give [] ?_
                        simp [El2, El3, El4, Ev, El, Eb, Et, h2, h4, h9, h12, h13, h14a, h14b, h14c, h14d, h16, h21, h22, h37, h54, h57]
          · rw [if_neg h13] at hsh; replace h13 := neg_b h13
            simp only [Erun, Ek, Ev, El, Ea, Eu, hX.res, hX.Q, List.getElem?_cons_zero, List.getElem?_cons_succ, seval, Et, h2, h4, h9, h12, h13]
            repeat (with_reducible refine And.intro (by first | assumption | omega | (simp only [i64in] at *; omega)) ?_)
            obtain ⟨awak4, h66, hsh⟩ := Option.bind_eq_some_iff.1 hsh
            have h66k := c_law32_awake N awak4 h66
            rw [← hX.P] at h66k
            refine .inl (vcall_pure _ (by rw [hX.P]; exact is_law32_awake.enters) h66k (fun H => (by simp [El2, El3, El4, Ev, El, Eb, Et, h2, h4, h9, h12, h13])) ?_)
            refine run_go 1000 _ _ _ _ ?_
            simp only [Erun, Ek, Ev, El, Ea, Eu, hX.res, hX.Q, List.getElem?_cons_zero, List.getElem?_cons_succ, seval, Et, h2, h4, h9, h12, h13]
            repeat (with_reducible refine And.intro (by first | assumption | omega | (simp only [i64in] at *; omega)) ?_)
            obtain rfl := Option.some.inj hsh
            refine post_give [] ?_
            simp [El2, El3, El4, Ev, El, Eb, Et, h2, h4, h9, h12, h13]
        · rw [if_neg h12] at hsh; replace h12 := neg_b h12
          simp only [Erun, Ek, Ev, El, Ea, Eu, hX.res, hX.Q, List.getElem?_cons_zero, List.getElem?_cons_succ, seval, Et, h2, h4, h9, h12]
          repeat (with_reducible refine And.intro (by first | assumption | omega | (simp only [i64in] at *; omega)) ?_)
          obtain rfl := Option.some.inj hsh
          refine post_give [] ?_
          simp [El2, El3, El4, Ev, El, Eb, Et, h2, h4, h9, h12]
end Go.Proofs.YtfblfapkpieckaaDoor.W
