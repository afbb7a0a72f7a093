/- slices.Sort of texts, over the library's own contract. No premise beyond what each theorem says. -/
import Derived.Test.YtbanfalnbhcknaaGreatDoorYG4
import Derived.Shelf.Slices.In.SortNone
import Derived.Shelf.Slices.In.SortAlone
import Derived.Sort.OwnSorted
import Derived.Sort.EveryDepth
import Derived.Shelf.Slices.In.CompactS
import Derived.Test.YtbanfalnbhcknaaGreatDoorYA4
import Derived.WalkKit
import Derived.Laws.Cover2
set_option linter.all false
set_option linter.unusedSimpArgs false
set_option linter.unusedVariables false
set_option linter.unusedVariables false
set_option linter.unusedSimpArgs false
namespace Go.Proofs.YtbanfalnbhcknaaGreatDoor.Y
open Go Go.Shelf Go.Sort Go.Proofs.Tryz
set_option maxHeartbeats 1000000
set_option maxRecDepth 1000000
def sren : Go.Shelf.Ren := ⟨fun | 125 => 52 | 128 => 86 | 129 => 87 | 190 => 33 | 258 => 51 | 302 => 77 | 303 => 78 | 304 => 79 | 305 => 80 | 306 => 81 | 307 => 82 | 308 => 83 | 309 => 84 | 310 => 85 | 329 => 116 | 330 => 117 | 333 => 115 | 334 => 118 | 335 => 119 | 336 => 120 | 344 => 145 | n => n, fun | 0 => 0 | 3 => 3 | 4 => 4 | 5 => 5 | 9 => 9 | 31 => 65 | 46 => 149 | 51 => 190 | 53 => 46 | 131 => 179 | 182 => 182 | 183 => 183 | 218 => 227 | 222 => 231 | 228 => 244 | 229 => 139 | n => n, fun n => n⟩
theorem laysSort : Go.Proofs.Lays.n190 Tryz.prog sren := {
  mixed := by kernel_rfl
  f125 := Tryz.func52.trans (congrArg some (by kernel_rfl))
  f128 := Tryz.func86.trans (congrArg some (by kernel_rfl))
  f129 := Tryz.func87.trans (congrArg some (by kernel_rfl))
  f190 := Tryz.func33.trans (congrArg some (by kernel_rfl))
  f258 := Tryz.func51.trans (congrArg some (by kernel_rfl))
  f302 := Tryz.func77.trans (congrArg some (by kernel_rfl))
  f303 := Tryz.func78.trans (congrArg some (by kernel_rfl))
  f304 := Tryz.func79.trans (congrArg some (by kernel_rfl))
  f305 := Tryz.func80.trans (congrArg some (by kernel_rfl))
  f306 := Tryz.func81.trans (congrArg some (by kernel_rfl))
  f307 := Tryz.func82.trans (congrArg some (by kernel_rfl))
  f308 := Tryz.func83.trans (congrArg some (by kernel_rfl))
  f309 := Tryz.func84.trans (congrArg some (by kernel_rfl))
  f310 := Tryz.func85.trans (congrArg some (by kernel_rfl))
  f329 := Tryz.func116.trans (congrArg some (by kernel_rfl))
  f330 := Tryz.func117.trans (congrArg some (by kernel_rfl))
  f333 := Tryz.func115.trans (congrArg some (by kernel_rfl))
  f334 := Tryz.func118.trans (congrArg some (by kernel_rfl))
  f335 := Tryz.func119.trans (congrArg some (by kernel_rfl))
  f336 := Tryz.func120.trans (congrArg some (by kernel_rfl))
  f344 := Tryz.func145.trans (congrArg some (by kernel_rfl))
  t0 := Tryz.underlying0
  a0 := Tryz.isAgg0
  z0 := Tryz.sizeOf0
  v0 := Tryz.zeroValue0
  t3 := Tryz.underlying3
  a3 := Tryz.isAgg3
  z3 := Tryz.sizeOf3
  v3 := Tryz.zeroValue3
  t4 := Tryz.underlying4
  a4 := Tryz.isAgg4
  z4 := Tryz.sizeOf4
  v4 := Tryz.zeroValue4
  t5 := Tryz.underlying5
  a5 := Tryz.isAgg5
  z5 := Tryz.sizeOf5
  v5 := Tryz.zeroValue5
  t9 := Tryz.underlying9
  a9 := Tryz.isAgg9
  z9 := Tryz.sizeOf9
  v9 := Tryz.zeroValue9
  t31 := Tryz.underlying65
  a31 := Tryz.isAgg65
  z31 := Tryz.sizeOf65
  v31 := Tryz.zeroValue65
  t46 := Tryz.underlying149
  a46 := Tryz.isAgg149
  z46 := Tryz.sizeOf149
  v46 := Tryz.zeroValue149
  t51 := Tryz.underlying190
  a51 := Tryz.isAgg190
  z51 := Tryz.sizeOf190
  v51 := Tryz.zeroValue190
  t53 := Tryz.underlying46
  a53 := Tryz.isAgg46
  z53 := Tryz.sizeOf46
  v53 := Tryz.zeroValue46
  t131 := Tryz.underlying179
  a131 := Tryz.isAgg179
  z131 := Tryz.sizeOf179
  v131 := Tryz.zeroValue179
  t182 := Tryz.underlying182
  a182 := Tryz.isAgg182
  z182 := Tryz.sizeOf182
  v182 := Tryz.zeroValue182
  t183 := Tryz.underlying183
  a183 := Tryz.isAgg183
  z183 := Tryz.sizeOf183
  v183 := Tryz.zeroValue183
  t218 := Tryz.underlying227
  a218 := Tryz.isAgg227
  z218 := Tryz.sizeOf227
  v218 := Tryz.zeroValue227
  t222 := Tryz.underlying231
  a222 := Tryz.isAgg231
  z222 := Tryz.sizeOf231
  v222 := Tryz.zeroValue231
  t228 := Tryz.underlying244
  a228 := Tryz.isAgg244
  z228 := Tryz.sizeOf244
  v228 := Tryz.zeroValue244
  t229 := Tryz.underlying139
  a229 := Tryz.isAgg139
  z229 := Tryz.sizeOf139
  v229 := Tryz.zeroValue139 }
theorem so_put (c : Array Value) (ts : List (List UInt8)) (h : ts.length ≤ c.size) (i : Nat) (hi : i < ts.length) : (Go.Sort.putCells encStr 0 ts.toArray c).getD i undef = .string (bs (ts.getD i [])) := by
  have h1 : i < c.size := by omega
  simp [Go.Sort.putCells, Array.getD, h1, hi, List.getD, bs]
theorem c_slices_Sort_string_v986 (N : Nat) : C_slices_Sort_string_v986.Ok prog N := by
  refine ⟨⟨Tryz.f33, Tryz.func33, by kernel_rfl, by kernel_rfl⟩, fun a r h => ?_⟩
  obtain ⟨⟨⟨⟩, ⟨⟩⟩, ⟨⟩, xs0, ⟨⟩⟩ := a
  obtain ⟨xs, rfl⟩ : ∃ xs : List (List UInt8), xs = xs0 := ⟨xs0, rfl⟩
  have h : s_slices_Sort_string_v986 N xs = some r := h
  unfold s_slices_Sort_string_v986 at h
  obtain ⟨hn, h⟩ := gd_some h
  have hn := Nat.le_of_ble_eq_true hn
  obtain rfl := Option.some.inj h
  intro M S w vs hh _ hsz hrep
  obtain ⟨v, rfl⟩ : ∃ v, vs = #[v] := by
    match vs, hsz with
    | ⟨[v]⟩, _ => exact ⟨v, rfl⟩
  have hv : VRep M S w v (.own 0) := hrep 0 (Nat.lt_succ_self 0)
  have e0 : v = M.bv 0 := by
    cases hv with
    | data q => cases q
    | own => rfl
  have hb : LiveRep S w (M.bv 0) 1 (xs.map fun x => AV.v (.string (bs x))) := hh.buf 0 (Nat.lt_succ_self 0)
  have hh' : RelH M S ⟨[], [.live 1 (xs.map fun x => AV.v (.string (bs x)))]⟩ w := hh
  clear hh hrep
  have hlen : (sortS xs).length = xs.length := by simp [sortS]
  have goal : Calls prog 33 #[v] w fun en w' => en = .returned (.tuple #[]) ∧ RelH M S ⟨[], [.live 1 ((sortS xs).map fun x => AV.v (.string (bs x)))]⟩ w' ∧ Frm M S ⟨[], [.live 1 (xs.map fun x => AV.v (.string (bs x)))]⟩ w M S ⟨[], [.live 1 ((sortS xs).map fun x => AV.v (.string (bs x)))]⟩ w' := by
    rcases hb with ⟨⟨ad, ha⟩, hx⟩ | ⟨g, cap, c, T, hbv, hun, hg, hrow⟩
    · have hx : xs = [] := by simpa using hx
      subst hx
      rw [e0, ha]
      refine (calls_of_every_depth fun D => AnyS.slices_Sort_string_none_alone laysSort D ad 0 w).mono ?_
      rintro e w' ⟨rfl, rfl⟩
      have : sortS [] = [] := by simp [sortS]
      rw [this]
      exact ⟨rfl, hh', .refl hh'⟩
    · have hgl : g < w.heap.size := (Array.getElem?_eq_some_iff.1 hg).1
      have hl0 : (xs.map fun x => AV.v (.string (bs x))).length = xs.length := by simp
      have hcs : xs.length ≤ c.size := by have := hrow.fits; have := hrow.size; omega
      have hcell : ∀ i, i < xs.length → c.getD i undef = .string (bs (xs.getD i [])) := fun i hi => by
        have := hrow.rep i (by rw [hl0]; exact hi) 0 (by omega)
        rw [Nat.mul_one, Nat.add_zero] at this
        have e : (xs.map fun x => AV.v (.string (bs x))).getD i .any = .v (.string (bs (xs.getD i []))) := by simp [List.getD, hi]
        rw [e] at this
        exact drepv this
      have hH : Holds encStr w g 0 xs.toArray := by
        refine holds_of_block hg ?_
        apply List.ext_getElem (by simp; omega)
        intro i h1 h2
        have hi : i < xs.length := by simpa using h2
        have hic : i < c.size := by omega
        have := hcell i hi
        simp only [Array.getD, hic, dif_pos] at this
        simp [encStr, bs, List.getD, hi] at this ⊢
        exact this
      rw [e0, hbv, hl0]
      refine (calls_of_every_depth fun D => AnyS.slices_Sort_string_alone laysSort D g 0 (cap + 1) xs w hH hgl (by omega)).mono ?_
      rintro e w' ⟨rfl, n, os, rfl⟩
      have hts : (xs.mergeSort fun x y => decide (x ≤ y)) = sortS xs := rfl
      rw [hts]
      have hbv' : M.bv 0 = .slice (some ⟨g, 0, none⟩) (xs.map fun x => AV.v (.string (bs x))).length (cap + 1) := hbv
      have hx' : ∀ i, i < ((sortS xs).map fun x => AV.v (.string (bs x))).length → i < (sortS xs).length ∧ ((sortS xs).map fun x => AV.v (.string (bs x))).getD i .any = .v (.string (bs ((sortS xs).getD i []))) := fun i hi => by
        have hi' : i < (sortS xs).length := by simpa using hi
        exact ⟨hi', by simp [List.getD, hi']⟩
      obtain ⟨q1, q2⟩ := hh'.storeTok (t := 0) (Nat.lt_succ_self 0) rfl (xs' := (sortS xs).map fun x => AV.v (.string (bs x))) (c' := Go.Sort.putCells encStr 0 (sortS xs).toArray c) hbv' hg (by simp [hlen]) ⟨by rw [List.length_map, hlen, ← hl0]; exact hrow.fits, hrow.small, by rw [← hrow.size]; simp [Go.Sort.putCells],
        fun i hi => by rw [(hx' i hi).2]; rfl,
        fun i hi j hj => by
          have : j = 0 := by omega
          subst this
          rw [(hx' i hi).2]; rfl,
        fun i hi j hj => by
          have : j = 0 := by omega
          subst this
          rw [Nat.mul_one, Nat.add_zero, so_put c _ (by omega) i (hx' i hi).1, (hx' i hi).2]
          exact .v _⟩
      have gr : Grew (w.setRow g (Go.Sort.putCells encStr 0 (sortS xs).toArray c)) (grow (putRow encStr (Sort.ahead w n) g 0 (sortS xs).toArray) os) := by
        obtain ⟨_, _, _, _, hby⟩ := grownBy_sorted (w := w) (g := g) (n := n) (os := os) (sortS xs).toArray
        have hsb : w.grownBy (w.setRow g (Go.Sort.putCells encStr 0 (sortS xs).toArray c)) (some g) := setRow_by
        refine ⟨rfl, rfl, rfl, ?_, fun k hk => ?_⟩
        · have : (w.setRow g (Go.Sort.putCells encStr 0 (sortS xs).toArray c)).heap.size = w.heap.size := by simp
          rw [this]; simp [putRow, mapBlock, Sort.ahead]
        · have hk : k < w.heap.size := by simpa using hk
          by_cases hkg : k = g
          · subst hkg
            rw [heap_sorted _ hg, setRow_heap w _ c _ T (0, 0) hg]
          · rw [setRow_other w g k _ hkg]
            exact hby k hk (fun e => hkg (Option.some.inj e))
      exact ⟨rfl, q1.grew gr, q2.trans (.grew q1 gr)⟩
  refine goal.mono ?_
  rintro en w' ⟨rfl, k1, k2⟩
  exact ⟨M, S, .data (.tup #[] [] rfl (fun i hi => by cases hi)), k1, k2⟩
where drepv {S : Nat → Prop} {w : World} {v x : Value} (h : DRep S w v (.v x)) : v = x := by cases h; rfl
end Go.Proofs.YtbanfalnbhcknaaGreatDoor.Y
set_option linter.unusedVariables false
set_option linter.unusedSimpArgs false
namespace Go.Proofs.YtbanfalnbhcknaaGreatDoor.Y
open Go Go.Shelf Go.Sort Go.Proofs.Tryz
set_option maxHeartbeats 1000000
set_option maxRecDepth 1000000
def cren : Go.Shelf.Ren := ⟨fun | 194 => 34 | n => n, fun | 0 => 0 | 3 => 3 | 4 => 4 | 9 => 9 | 31 => 65 | n => n, fun n => n⟩
theorem laysCompact : Go.Proofs.Lays.n194 Tryz.prog cren := {
  mixed := by kernel_rfl
  f194 := Tryz.func34.trans (congrArg some (by kernel_rfl))
  t0 := Tryz.underlying0
  a0 := Tryz.isAgg0
  z0 := Tryz.sizeOf0
  v0 := Tryz.zeroValue0
  t3 := Tryz.underlying3
  a3 := Tryz.isAgg3
  z3 := Tryz.sizeOf3
  v3 := Tryz.zeroValue3
  t4 := Tryz.underlying4
  a4 := Tryz.isAgg4
  z4 := Tryz.sizeOf4
  v4 := Tryz.zeroValue4
  t9 := Tryz.underlying9
  a9 := Tryz.isAgg9
  z9 := Tryz.sizeOf9
  v9 := Tryz.zeroValue9
  t31 := Tryz.underlying65
  a31 := Tryz.isAgg65
  z31 := Tryz.sizeOf65
  v31 := Tryz.zeroValue65 }
theorem co_eq (l : List (List UInt8)) : Lib.compact l = compS l := rfl
theorem co_le (l : List (List UInt8)) : (compS l).length ≤ l.length := by
  unfold compS
  rw [List.length_map]
  exact Nat.le_trans (List.length_filter_le _ _) (by simp)
theorem co_pos {l : List (List UInt8)} (h : l ≠ []) : 0 < (compS l).length := by
  cases l with
  | nil => exact absurd rfl h
  | cons x l =>
    have : 0 ∈ (List.range (x :: l).length).filter fun j => decide (j = 0 ∨ (x :: l).toArray[j]! ≠ (x :: l).toArray[j - 1]!) := by simp
    unfold compS
    rw [List.length_map]
    exact List.length_pos_of_mem this
theorem co_put (c : Array Value) (ts : List (List UInt8)) (m : Nat) (h : ts.length + m ≤ c.size) (i : Nat) (hi : i < ts.length) : (Go.Sort.putCells encStr 0 (ts ++ List.replicate m []).toArray c).getD i undef = .string (bs (ts.getD i [])) := by
  have h1 : i < c.size := by omega
  have h2 : i < ts.length + m := by omega
  simp [Go.Sort.putCells, Array.getD, h1, h2, hi, List.getD, bs, List.getElem_append_left, List.getElem?_append_left]
theorem c_slices_Compact_string_v263_own (N : Nat) : C_slices_Compact_string_v263_own.Ok prog N := by
  refine ⟨⟨Tryz.f34, Tryz.func34, by kernel_rfl, by kernel_rfl⟩, fun a r h => ?_⟩
  obtain ⟨⟨⟨⟩, ⟨⟩⟩, ⟨⟩, xs0, ⟨⟩⟩ := a
  obtain ⟨xs, rfl⟩ : ∃ xs : List (List UInt8), xs = xs0 := ⟨xs0, rfl⟩
  have h : s_slices_Compact_string_v263_own N xs = some r := h
  unfold s_slices_Compact_string_v263_own at h
  obtain ⟨hn, h⟩ := gd_some h
  have hn := Nat.le_of_ble_eq_true hn
  obtain rfl := Option.some.inj h
  intro M S w vs hh _ hsz hrep
  obtain ⟨v, rfl⟩ : ∃ v, vs = #[v] := by
    match vs, hsz with
    | ⟨[v]⟩, _ => exact ⟨v, rfl⟩
  have hv : VRep M S w v (.own 0) := hrep 0 (Nat.lt_succ_self 0)
  have e0 : v = M.bv 0 := by
    cases hv with
    | data q => cases q
    | own => rfl
  have hb : LiveRep S w (M.bv 0) 1 (xs.map fun x => AV.v (.string (bs x))) := hh.buf 0 (Nat.lt_succ_self 0)
  have hh' : RelH M S ⟨[], [.live 1 (xs.map fun x => AV.v (.string (bs x)))]⟩ w := hh
  clear hh hrep
  have fin : ∀ (g : Option Nat) (v' : Value) (w' : World), w.grownBy w' g → (∀ b, g = some b → lives M ⟨[], [.live 1 (xs.map fun x => AV.v (.string (bs x)))]⟩ 0 b) → LiveRep S w' v' 1 ((compS xs).map fun x => AV.v (.string (bs x))) → (∀ b, Value.blk v' = some b → w.heap.size ≤ b ∨ g = some b) → (∃ a n c, v' = .slice a n c) →
      ∃ M' S', EndRep M' S' w' (.returned v') (.ret (.own 1)) ∧ RelH M' S' ⟨[], [.dead, .live 1 ((compS xs).map fun x => AV.v (.string (bs x)))]⟩ w' ∧ Frm M S ⟨[], [.live 1 (xs.map fun x => AV.v (.string (bs x)))]⟩ w M' S' ⟨[], [.dead, .live 1 ((compS xs).map fun x => AV.v (.string (bs x)))]⟩ w' := by
    intro g v' w' hg hl hr hblk hs
    obtain ⟨q1, q2⟩ := hh'.newTok hg (buf := [.dead]) rfl (fun t ht => .inr (by
        have : t = 0 := by have : t < 1 := ht; omega
        subst this; rfl)) (fun b e => ⟨.inr ⟨0, hl b e⟩, fun t ht => by
        have : t = 0 := by have : t < 1 := ht.1; omega
        subst this; rfl⟩) (fun b c _ hc => by cases hc) hr hblk
    exact ⟨_, S, rep_newTok hh'.nt hs, q1, q2⟩
  rcases hb with ⟨⟨ad, ha⟩, hx⟩ | ⟨g, cap, c, T, hbv, hun, hg, hrow⟩
  · have hx : xs = [] := by simpa using hx
    subst hx
    rw [e0, ha]
    refine (calls_of_every_depth fun D => AnyS.slices_Compact_string_empty_in laysCompact D ad 0 w).mono ?_
    rintro e w' ⟨rfl, rfl⟩
    exact fin none _ _ ⟨rfl, rfl, rfl, Nat.le_refl _, fun _ _ _ => rfl⟩ (fun b e => by cases e) (.inl ⟨⟨_, rfl⟩, rfl⟩) (fun b hb => by cases ad <;> cases hb) ⟨_, _, _, rfl⟩
  · have hgl : g < w.heap.size := (Array.getElem?_eq_some_iff.1 hg).1
    have hl0 : (xs.map fun x => AV.v (.string (bs x))).length = xs.length := by simp
    have hfit := hrow.fits
    have hsize := hrow.size
    rw [hl0] at hfit
    have hcs : xs.length ≤ c.size := by omega
    have hcell : ∀ i, i < xs.length → c.getD i undef = .string (bs (xs.getD i [])) := fun i hi => by
      have := hrow.rep i (by rw [hl0]; exact hi) 0 (by omega)
      rw [Nat.mul_one, Nat.add_zero] at this
      have e : (xs.map fun x => AV.v (.string (bs x))).getD i .any = .v (.string (bs (xs.getD i []))) := by simp [List.getD, hi]
      rw [e] at this
      exact drepv this
    have hH : Holds encStr w g 0 xs.toArray := by
      refine holds_of_block hg ?_
      apply List.ext_getElem (by simp; omega)
      intro i h1 h2
      have hi : i < xs.length := by simpa using h2
      have hic : i < c.size := by omega
      have := hcell i hi
      simp only [Array.getD, hic, dif_pos] at this
      simp [encStr, bs, List.getD, hi] at this ⊢
      exact this
    by_cases hxe : xs = []
    · subst hxe
      rw [e0, hbv, hl0]
      refine (calls_of_every_depth fun D => AnyS.slices_Compact_string_empty_in laysCompact D (some ⟨g, 0, none⟩) (cap + 1) w).mono ?_
      rintro e w' ⟨rfl, rfl⟩
      exact fin (some g) _ _ ⟨rfl, rfl, rfl, Nat.le_refl _, fun _ _ _ => rfl⟩ (fun b e => by cases e; exact ⟨Nat.lt_succ_self 0, rfl, by rw [hbv]; rfl⟩) (.inr ⟨g, cap, c, T, rfl, hun, hg, hrow⟩) (fun b hb => .inr hb) ⟨_, _, _, rfl⟩
    rw [e0, hbv, hl0]
    refine (calls_of_every_depth fun D => AnyS.slices_Compact_string_in laysCompact D g 0 (cap + 1) xs w hH (by omega) hfit).mono ?_
    rintro e w' ⟨rfl, q, rfl⟩
    rw [co_eq]
    have hle := co_le xs
    have hpos := co_pos hxe
    generalize hts : compS xs = ts at hle hpos
    rw [hts] at fin
    have hl1 : (ts.map fun x => AV.v (.string (bs x))).length = ts.length := by simp
    have hby : w.grownBy (grow (putRow encStr (Sort.ahead w q) g 0 (ts ++ List.replicate (xs.length - ts.length) []).toArray) #[]) (some g) := grownBy_sorted _
    rw [grow_empty] at hby
    have hg' := heap_sorted (n := q) (os := #[]) (ts ++ List.replicate (xs.length - ts.length) []).toArray hg
    rw [grow_empty] at hg'
    refine fin (some g) _ _ hby (fun b e => by cases e; exact ⟨Nat.lt_succ_self 0, rfl, by rw [hbv]; rfl⟩) (.inr ⟨g, cap, _, T, by rw [hl1], hun, hg', ?_⟩) (fun b hb => .inr hb) ⟨_, _, _, rfl⟩
    have hx' : ∀ i, i < (ts.map fun x => AV.v (.string (bs x))).length → i < ts.length ∧ (ts.map fun x => AV.v (.string (bs x))).getD i .any = .v (.string (bs (ts.getD i []))) := fun i hi => by
      have hi' : i < ts.length := by simpa using hi
      exact ⟨hi', by simp [List.getD, hi']⟩
    exact ⟨by rw [hl1]; omega, hrow.small, by rw [← hsize]; simp [Go.Sort.putCells], fun i hi => by rw [(hx' i hi).2]; rfl,
      fun i hi j hj => by
        have : j = 0 := by omega
        subst this
        rw [(hx' i hi).2]; rfl,
      fun i hi j hj => by
        have : j = 0 := by omega
        subst this
        rw [Nat.mul_one, Nat.add_zero, co_put c _ _ (by omega) i (hx' i hi).1, (hx' i hi).2]
        exact .v _⟩
where drepv {S : Nat → Prop} {w : World} {v x : Value} (h : DRep S w v (.v x)) : v = x := by cases h; rfl
end Go.Proofs.YtbanfalnbhcknaaGreatDoor.Y
namespace Go.Proofs.YtbanfalnbhcknaaGreatDoor.Y
open Go Go.RowKit Go.Proofs.Tryz
attribute [-go_sem] binOp_float_cmp_neq binOp_float_cmp_leq binOp_float_cmp_gtr binOp_float_cmp_geq
set_option maxRecDepth 1000000
set_option linter.unusedVariables false
set_option linter.unusedSimpArgs false
set_option maxHeartbeats 4000000
theorem rf_ext2_OfInt (w : World) (n : Nat) : (callFunc 223 #[.float .f64 n]).run Tryz.prog w = .ok (.value (.int .u64 n)) w := by
  obtain ⟨fn, h1, h2, h3, h4, h5⟩ := (ExtIs.mk' (P := Tryz.prog) (f := 223) (e := Extern.MathFloatBits.float64bits) Tryz.f223 (by kernel_rfl) (by kernel_rfl) (by kernel_rfl) (by kernel_rfl) (by kernel_rfl)).prf
  exact run_callFunc_extern h1 h2 h3 h4 h5 _ w
theorem ofint_w_OfInt (n : Int) (w : World) : Calls Tryz.prog 242 #[.int .i64 n] w fun e w' => e = .returned (.int .u64 (FloatKind.f64.nearest n)) ∧ w' = w := by
  have hx := rf_ext2_OfInt
  have hq : ∀ w : World, (convert 3 241 (.int .i64 n)).run Tryz.prog w = .ok (.float .f64 (FloatKind.f64.nearest n)) w := fun w => by rfl
  go_enter Tryz.func242, Tryz.ntmps242
  go_wp2
  go_ret
  exact ⟨rfl, rfl⟩
theorem c_real_OfInt (N : Nat) : C_real_OfInt.Ok prog N := by
  refine ⟨⟨Tryz.f242, Tryz.func242, by kernel_rfl, by kernel_rfl⟩, fun a r h => ?_⟩
  obtain ⟨x, ⟨⟩⟩ := a
  have h : some (((FloatKind.f64.nearest x : Nat) : Int)) = some r := h
  obtain rfl := Option.some.inj h
  intro M S w vs hh _ hsz hrep
  obtain ⟨v, rfl⟩ : ∃ v, vs = #[v] := by
    match vs, hsz with
    | ⟨[v]⟩, _ => exact ⟨v, rfl⟩
  have vr : ∀ {v x : Value}, DRep S w v (.v x) → v = x := fun h => by cases h; rfl
  have h0 : DRep S w v (.v (.int .i64 x)) := dat_rep (hrep 0 (by show 0 < 1; omega)) rfl
  obtain rfl := vr h0
  refine (ofint_w_OfInt x w).mono ?_
  rintro e w' ⟨rfl, rfl⟩
  exact ⟨M, S, .data (.v _), hh.grew (.refl _), .grew hh (.refl _)⟩
end Go.Proofs.YtbanfalnbhcknaaGreatDoor.Y
namespace Go.Proofs.YtbanfalnbhcknaaGreatDoor.Y
open Go Go.RowKit Go.Proofs.Tryz
attribute [-go_sem] binOp_float_cmp_neq binOp_float_cmp_leq binOp_float_cmp_gtr binOp_float_cmp_geq
set_option maxRecDepth 1000000
set_option linter.unusedVariables false
set_option linter.unusedSimpArgs false
set_option maxHeartbeats 4000000
theorem rf_ext1_Add (w : World) (n : Int) : (callFunc 164 #[.int .u64 n]).run Tryz.prog w = .ok (.value (.float .f64 n.toNat)) w := by
  obtain ⟨fn, h1, h2, h3, h4, h5⟩ := (ExtIs.mk' (P := Tryz.prog) (f := 164) (e := Extern.MathFloatBits.float64frombits) Tryz.f164 (by kernel_rfl) (by kernel_rfl) (by kernel_rfl) (by kernel_rfl) (by kernel_rfl)).prf
  exact run_callFunc_extern h1 h2 h3 h4 h5 _ w
theorem rf_ext2_Add (w : World) (n : Nat) : (callFunc 223 #[.float .f64 n]).run Tryz.prog w = .ok (.value (.int .u64 n)) w := by
  obtain ⟨fn, h1, h2, h3, h4, h5⟩ := (ExtIs.mk' (P := Tryz.prog) (f := 223) (e := Extern.MathFloatBits.float64bits) Tryz.f223 (by kernel_rfl) (by kernel_rfl) (by kernel_rfl) (by kernel_rfl) (by kernel_rfl)).prf
  exact run_callFunc_extern h1 h2 h3 h4 h5 _ w
theorem of_w_Add (u : Int) (w : World) : Calls Tryz.prog 139 #[.int .u64 u] w fun e w' => e = .returned (.float .f64 u.toNat) ∧ w' = w := by
  have hx := rf_ext1_Add
  go_enter Tryz.func139, Tryz.ntmps139
  go_wp2
  go_ret
  exact ⟨rfl, rfl⟩
theorem clean_w_Add (u : Int) (w : World) : Calls Tryz.prog 101 #[.int .u64 u] w fun e w' => e = .returned (.int .u64 (clF u)) ∧ w' = w := by
  obtain ⟨c, hc⟩ : ∃ c, fcmpB .neq .f64 u.toNat u.toNat = c := ⟨_, rfl⟩
  have hq : ∀ w : World, (binOp .neq 241 (.float .f64 u.toNat) (.float .f64 u.toNat)).run Tryz.prog w = .ok (.bool c) w := fun w => by rw [← hc]; rfl
  cases c
  · have : clF u = u := by unfold clF; rw [hc]; rfl
    rw [this]
    go_enter Tryz.func101, Tryz.ntmps101
    go_wp2_with (go_at_call 139; refine (of_w_Add _ _).mono ?_; rintro e w' ⟨rfl, rfl⟩)
    go_ret
    exact ⟨rfl, rfl⟩
  · have : clF u = 9221120237041090560 := by unfold clF; rw [hc]; rfl
    rw [this]
    go_enter Tryz.func101, Tryz.ntmps101
    go_wp2_with (go_at_call 139; refine (of_w_Add _ _).mono ?_; rintro e w' ⟨rfl, rfl⟩)
    go_ret
    exact ⟨rfl, rfl⟩
theorem bits_w_Add (n : Nat) (w : World) : Calls Tryz.prog 241 #[.float .f64 n] w fun e w' => e = .returned (.int .u64 (clF n)) ∧ w' = w := by
  have hx := rf_ext2_Add
  go_enter Tryz.func241, Tryz.ntmps241
  go_wp2_with (go_at_call 101; refine (clean_w_Add _ _).mono ?_; rintro e w' ⟨rfl, rfl⟩)
  go_ret
  exact ⟨rfl, rfl⟩
theorem add_w_Add (a b : Int) (w : World) : Calls Tryz.prog 238 #[.int .u64 a, .int .u64 b] w fun e w' => e = .returned (.int .u64 (rAdd a b)) ∧ (w' = w ∨ w' = w.drew) := by
  cases hr : FloatKind.f64.format.add a.toNat b.toNat with
  | some c =>
    have hq : ∀ w : World, (binOp .add 241 (.float .f64 a.toNat) (.float .f64 b.toNat)).run Tryz.prog w = .ok (.float .f64 c) w := fun w => by
      simp [binOp, Op.floatArith, hr]
    have : rAdd a b = clF c := by unfold rAdd; rw [hr]
    rw [this]
    go_enter Tryz.func238, Tryz.ntmps238
    go_wp2_with (first | (go_at_call 139; refine (of_w_Add _ _).mono ?_; rintro e w' ⟨rfl, rfl⟩) | (go_at_call 241; refine (bits_w_Add _ _).mono ?_; rintro e w' ⟨rfl, rfl⟩))
    go_ret
    exact ⟨rfl, .inl rfl⟩
  | none =>
    have hq : ∀ w : World, (binOp .add 241 (.float .f64 a.toNat) (.float .f64 b.toNat)).run Tryz.prog w = .ok (.float .f64 (Question.cut (.nanBits .f64 a.toNat b.toNat) (w.tape w.drawn (.nanBits .f64 a.toNat b.toNat)))) w.drew := fun w => by
      simp [binOp, Op.floatArith, hr]
      intro h; simp [Question.forced] at h
    have : rAdd a b = 9221120237041090560 := by unfold rAdd; rw [hr]
    rw [this]
    have hcl : ∀ t : Nat, clF ((Question.cut (.nanBits .f64 a.toNat b.toNat) t : Nat) : Int) = 9221120237041090560 := fun t => by
      unfold clF
      rw [if_pos]
      simp only [fcmpB, Int.toNat_natCast, Question.cut]
      have := nan_order (u := (t % 2) * 2 ^ 63 + 0x7ff0000000000000 + 1 + (t / 2) % (2 ^ 52 - 1)) (by
        rcases Nat.mod_two_eq_zero_or_one t with h | h <;> rw [h] <;> omega)
      show (Ieee.double.order _ _ != some .eq) = true
      rw [this]; rfl
    go_enter Tryz.func238, Tryz.ntmps238
    go_wp2_with (first | (go_at_call 139; refine (of_w_Add _ _).mono ?_; rintro e w' ⟨rfl, rfl⟩) | (go_at_call 241; refine (bits_w_Add _ _).mono ?_; rintro e w' ⟨rfl, rfl⟩))
    go_ret
    exact ⟨rfl, .inr rfl⟩
theorem c_real_Add (N : Nat) : C_real_Add.Ok prog N := by
  refine ⟨⟨Tryz.f238, Tryz.func238, by kernel_rfl, by kernel_rfl⟩, fun a r h => ?_⟩
  obtain ⟨x, y, ⟨⟩⟩ := a
  have h : some (rAdd x y) = some r := h
  obtain rfl := Option.some.inj h
  intro M S w vs hh _ hsz hrep
  obtain ⟨v, u, rfl⟩ : ∃ v u, vs = #[v, u] := by
    match vs, hsz with
    | ⟨[v, u]⟩, _ => exact ⟨v, u, rfl⟩
  have vr : ∀ {v x : Value}, DRep S w v (.v x) → v = x := fun h => by cases h; rfl
  have h0 : DRep S w v (.v (.int .u64 x)) := dat_rep (hrep 0 (by show 0 < 2; omega)) rfl
  obtain rfl := vr h0
  have h1 : DRep S w u (.v (.int .u64 y)) := dat_rep (hrep 1 (by show 1 < 2; omega)) rfl
  obtain rfl := vr h1
  have hd : Grew w w.drew := ⟨rfl, rfl, rfl, Nat.le_refl _, fun _ _ => rfl⟩
  refine (add_w_Add x y w).mono ?_
  rintro e w' ⟨rfl, rfl | rfl⟩
  · exact ⟨M, S, .data (.v _), hh.grew (.refl _), .grew hh (.refl _)⟩
  · exact ⟨M, S, .data (.v _), hh.grew hd, .grew hh hd⟩
end Go.Proofs.YtbanfalnbhcknaaGreatDoor.Y
