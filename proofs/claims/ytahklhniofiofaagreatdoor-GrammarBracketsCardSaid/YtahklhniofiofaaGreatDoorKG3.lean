/- lex.whole, walked. No premise beyond what each theorem says. -/
import Derived.Test.YtahklhniofiofaaGreatDoorKG2
import Derived.Shelf.Strings.BuilderK
import Derived.Test.YtahklhniofiofaaGreatDoorKA3
import Derived.WalkKit
import Derived.BigCall
import Derived.Laws.BytesString
import Derived.Laws.IdiomStrings
import Derived.Lib.SmallJoins
import Derived.Laws.Bits64b
import Derived.Lib.UnsafeStr
import Derived.Lib.OthersKept
import Derived.Deep.RegionHeld3
import Derived.LaidEql
import Derived.Stop.Asserts
import Derived.RowKitTokens
set_option linter.all false
set_option linter.unusedSimpArgs false
set_option linter.unusedVariables false
namespace Go.Proofs.YtahklhniofiofaaGreatDoor.K
open Go
section
open Go Go.Shelf Go.RowKit Go.Proofs.Tryz
set_option maxHeartbeats 1000000
set_option maxRecDepth 1000000
def bren : Go.Shelf.Ren := ⟨fun | 166 => 146 | 167 => 145 | 169 => 147 | 240 => 162 | 276 => 174 | n => n, fun | 0 => 0 | 3 => 3 | 4 => 4 | 5 => 5 | 9 => 9 | 20 => 20 | 31 => 201 | 37 => 188 | 70 => 216 | 72 => 218 | 75 => 27 | 76 => 220 | 80 => 94 | 127 => 234 | 164 => 129 | n => n, fun n => n⟩
theorem lays166 : Go.Proofs.Lays.n166 Tryz.prog bren := {
  mixed := by kernel_rfl
  f166 := Tryz.func146.trans (congrArg some (by kernel_rfl))
  f240 := Tryz.func162.trans (congrArg some (by kernel_rfl))
  f276 := Tryz.func174.trans (congrArg some (by kernel_rfl))
  t0 := Tryz.underlying0
  a0 := Tryz.isAgg0
  z0 := Tryz.sizeOf0
  v0 := Tryz.zeroValue0
  t3 := Tryz.underlying3
  a3 := Tryz.isAgg3
  z3 := Tryz.sizeOf3
  v3 := Tryz.zeroValue3
  t4 := Tryz.underlying4
  a4 := Tryz.isAgg4
  z4 := Tryz.sizeOf4
  v4 := Tryz.zeroValue4
  t9 := Tryz.underlying9
  a9 := Tryz.isAgg9
  z9 := Tryz.sizeOf9
  v9 := Tryz.zeroValue9
  t20 := Tryz.underlying20
  a20 := Tryz.isAgg20
  z20 := Tryz.sizeOf20
  v20 := Tryz.zeroValue20
  t37 := Tryz.underlying188
  a37 := Tryz.isAgg188
  z37 := Tryz.sizeOf188
  v37 := Tryz.zeroValue188
  t70 := Tryz.underlying216
  a70 := Tryz.isAgg216
  z70 := Tryz.sizeOf216
  v70 := Tryz.zeroValue216
  t72 := Tryz.underlying218
  a72 := Tryz.isAgg218
  z72 := Tryz.sizeOf218
  v72 := Tryz.zeroValue218
  t75 := Tryz.underlying27
  a75 := Tryz.isAgg27
  z75 := Tryz.sizeOf27
  v75 := Tryz.zeroValue27
  t164 := Tryz.underlying129
  a164 := Tryz.isAgg129
  z164 := Tryz.sizeOf129
  v164 := Tryz.zeroValue129 }
theorem lays167 : Go.Proofs.Lays.n167 Tryz.prog bren := {
  mixed := by kernel_rfl
  f167 := Tryz.func145.trans (congrArg some (by kernel_rfl))
  f240 := Tryz.func162.trans (congrArg some (by kernel_rfl))
  f276 := Tryz.func174.trans (congrArg some (by kernel_rfl))
  t0 := Tryz.underlying0
  a0 := Tryz.isAgg0
  z0 := Tryz.sizeOf0
  v0 := Tryz.zeroValue0
  t4 := Tryz.underlying4
  a4 := Tryz.isAgg4
  z4 := Tryz.sizeOf4
  v4 := Tryz.zeroValue4
  t5 := Tryz.underlying5
  a5 := Tryz.isAgg5
  z5 := Tryz.sizeOf5
  v5 := Tryz.zeroValue5
  t9 := Tryz.underlying9
  a9 := Tryz.isAgg9
  z9 := Tryz.sizeOf9
  v9 := Tryz.zeroValue9
  t20 := Tryz.underlying20
  a20 := Tryz.isAgg20
  z20 := Tryz.sizeOf20
  v20 := Tryz.zeroValue20
  t37 := Tryz.underlying188
  a37 := Tryz.isAgg188
  z37 := Tryz.sizeOf188
  v37 := Tryz.zeroValue188
  t70 := Tryz.underlying216
  a70 := Tryz.isAgg216
  z70 := Tryz.sizeOf216
  v70 := Tryz.zeroValue216
  t72 := Tryz.underlying218
  a72 := Tryz.isAgg218
  z72 := Tryz.sizeOf218
  v72 := Tryz.zeroValue218
  t75 := Tryz.underlying27
  a75 := Tryz.isAgg27
  z75 := Tryz.sizeOf27
  v75 := Tryz.zeroValue27
  t164 := Tryz.underlying129
  a164 := Tryz.isAgg129
  z164 := Tryz.sizeOf129
  v164 := Tryz.zeroValue129 }
theorem lays169 : Go.Proofs.Lays.n169 Tryz.prog bren := {
  mixed := by kernel_rfl
  f169 := Tryz.func147.trans (congrArg some (by kernel_rfl))
  t0 := Tryz.underlying0
  a0 := Tryz.isAgg0
  z0 := Tryz.sizeOf0
  v0 := Tryz.zeroValue0
  t3 := Tryz.underlying3
  a3 := Tryz.isAgg3
  z3 := Tryz.sizeOf3
  v3 := Tryz.zeroValue3
  t9 := Tryz.underlying9
  a9 := Tryz.isAgg9
  z9 := Tryz.sizeOf9
  v9 := Tryz.zeroValue9
  t37 := Tryz.underlying188
  a37 := Tryz.isAgg188
  z37 := Tryz.sizeOf188
  v37 := Tryz.zeroValue188
  t70 := Tryz.underlying216
  a70 := Tryz.isAgg216
  z70 := Tryz.sizeOf216
  v70 := Tryz.zeroValue216
  t72 := Tryz.underlying218
  a72 := Tryz.isAgg218
  z72 := Tryz.sizeOf218
  v72 := Tryz.zeroValue218
  t127 := Tryz.underlying234
  a127 := Tryz.isAgg234
  z127 := Tryz.sizeOf234
  v127 := Tryz.zeroValue234 }
theorem bextra : Builder.Extra Tryz.prog bren := {
  sizeBuilder := by kernel_rfl
  liesBuilder := by kernel_rfl
  t5 := Tryz.underlying5
  a5 := Tryz.isAgg5
  z5 := Tryz.sizeOf5
  v5 := Tryz.zeroValue5
  infoByte := by kernel_rfl
  cellsByte := by kernel_rfl
  sizeByte := by kernel_rfl
  neB5 := by decide }
theorem xZfc {α : Type} (x z : α) (r : List α) : ∀ j, (List.replicate (j + 1) z ++ r).set j x = List.replicate j z ++ x :: r
  | 0 => rfl
  | j + 1 => by
    have := xZfc x z r j
    simp only [List.replicate_succ, List.cons_append, List.set_cons_succ] at this ⊢
    rw [this]
theorem xZnT (q : Nat) : 48 + UInt8.ofNat (q % 10) = UInt8.ofNat (48 + q % 10) := by
  apply UInt8.toNat_inj.1
  simp [UInt8.toNat_add]
theorem xZhZ (n : Int) (h1 : -4611686018427387904 ≤ n) (h2 : n ≤ 4611686018427387904) (w : World) :
    Calls Tryz.prog 113 #[.int .i64 n] w fun e w' => e = .returned (.string (bs (whS n))) ∧ Below w.heap.size w w' := by
  have hm : max n (-n) = (n.natAbs : Int) := by omega
  have hm2 : n.natAbs < 10 ^ 19 := by omega
  obtain ⟨m, hmm⟩ : ∃ m, n.natAbs = m := ⟨_, rfl⟩
  rw [hmm] at hm hm2
  go_enter Tryz.func113, Tryz.ntmps113
  go_wp2
  have hin : n < 0 ↔ n < 0 := Iff.rfl
  go_loopw [4, 5] (fun i x wr => ∃ (j k q : Nat) (tail : List UInt8), j + k = 21 ∧ i = .int .i64 j ∧ x = .int .u64 (q : Int) ∧ wr.heap[w.heap.size]? = some (.cells (Lib.byteCells (List.replicate j 0 ++ tail)).toArray 214 (0, 0)) ∧ Below w.heap.size w wr ∧ tail.length = k ∧ dgF 20 m = dgF (20 - k) q ++ tail ∧ (k = 0 ∨ q ≠ 0) ∧ q < 10 ^ (19 - k) ∧ k ≤ 19) (fun i _ _ => (intOf i).toNat)
  case atStart =>
    refine ⟨21, 0, m, [], rfl, rfl, rfl, ?_, (Below.refl _ w).alloc (Nat.le_refl _) _, rfl, by simp, .inl rfl, hm2, by omega⟩
    rw [heap_alloc_new]
    rfl
  case round =>
    obtain ⟨j, k, q, tail, hjk, rfl, rfl, hh, hb, htl, hdg, hkq, hq, hk19⟩ := hrel
    have hsz := hb.size
    have hk18 : k ≤ 18 := by
      rcases hkq with h | h
      · omega
      · by_cases hk : k = 19
        · subst hk; simp at hq; omega
        · omega
    obtain ⟨p, rfl⟩ : ∃ p, j = p + 2 := ⟨j - 2, by omega⟩
    have hlen : (Lib.byteCells (List.replicate (p + 2) 0 ++ tail)).length = 21 := by rw [Lib.byteCells_length]; simp; omega
    have g1 : (0 : Int) ≤ ((p + 1 : Nat) : Int) := by omega
    have g2 : ((p + 1 : Nat) : Int) < 21 := by omega
    have g3 : p + 1 < 21 := by omega
    have g4 : (p : Int) + 1 < 21 := by omega
    have g5 : (p : Int) < 21 := by omega
    have g6 : p < 21 := by omega
    have g7 : p + 1 ≤ 21 := by omega
    have g8 : p ≤ 21 := by omega
    have c1 : ∃ v, wr.cell? ⟨w.heap.size, p + 1, none⟩ = some v := by
      rw [Lib.cell_of_heap hh]; exact ⟨(Lib.byteCells (List.replicate (p + 2) 0 ++ tail))[p + 1]'(by omega), by simp only [List.getElem?_toArray]; exact List.getElem?_eq_getElem _⟩
    obtain ⟨v0, c1⟩ := c1
    have c2 : wr.frozen? ⟨w.heap.size, p + 1, none⟩ = false := Lib.frozen_of_heap hh (p + 1)
    have hq64 : q < 18446744073709551616 := Nat.lt_of_lt_of_le hq (Nat.le_trans (Nat.pow_le_pow_right (by decide) (by omega : 19 - k ≤ 19)) (by decide))
    have hbl := fun v => Joins.block_setCell (i := p + 1) hh v
    have c3 : ∀ v, (wr.setCell ⟨w.heap.size, p + 1, none⟩ v).cell? ⟨w.heap.size, p, none⟩ = some (.int .u8 0) := fun v => by
      rw [Lib.cell_of_heap (hbl v), List.setIfInBounds_toArray, List.getElem?_toArray, List.getElem?_set_ne (by omega)]
      simp [Lib.byteCells, List.getElem?_append]
    have c4 : ∀ v, (wr.setCell ⟨w.heap.size, p + 1, none⟩ v).frozen? ⟨w.heap.size, p, none⟩ = false := fun v => Lib.frozen_of_heap (hbl v) p
    have hbl2 := fun v v' => Joins.block_setCell (i := p) (hbl v) v'
    have hd10 : q % 10 < 10 := Nat.mod_lt _ (by decide)
    have s1 : (0 : Int) ≤ (p : Int) + 2 - 1 := by omega
    have s2 : (p : Int) + 2 - 1 ≤ 21 := by omega
    have s3 : (0 : Int) ≤ (p : Int) + 2 - 1 - 1 := by omega
    have s4 : (p : Int) + 2 - 1 - 1 ≤ 21 := by omega
    have s5 : ((p : Int) + 2 - 1).toNat = p + 1 := by omega
    have s6 : ((p : Int) + 2 - 1 - 1).toNat = p := by omega
    have s7 : ¬ (21 = p + 1) := by omega
    have s8 : ¬ (21 = p) := by omega
    have r1 : ∀ W, (Instr.sliceAt 214 (.pointer (some ⟨w.heap.size, 0, none⟩)) (some (.int .i64 ((p : Int) + 2 - 1))) none none).run Tryz.prog W = .ok (.slice (some ⟨w.heap.size, p + 1, none⟩) (20 - p) (20 - p)) W := fun W => by
      rw [run_sliceAt_array_l (P := Tryz.prog) W 214 _ (by kernel_rfl) .i64 _ s1 (by exact s2), s5, show Tryz.prog.elem 214 = 5 from by kernel_rfl, Tryz.sizeOf5, show Tryz.prog.arrayLen 214 = 21 from by kernel_rfl]
      simp only [Result.andThen, slicedAt, if_neg s7, Addr.add, Nat.mul_one, Nat.zero_add, show 21 - (p + 1) = 20 - p from by omega, Nat.succ_ne_zero, if_false]
    have r2 : ∀ W, (Instr.sliceAt 214 (.pointer (some ⟨w.heap.size, 0, none⟩)) (some (.int .i64 ((p : Int) + 2 - 1 - 1))) none none).run Tryz.prog W = .ok (.slice (some ⟨w.heap.size, p, none⟩) (21 - p) (21 - p)) W := fun W => by
      rw [run_sliceAt_array_l (P := Tryz.prog) W 214 _ (by kernel_rfl) .i64 _ s3 (by exact s4), s6, show Tryz.prog.elem 214 = 5 from by kernel_rfl, Tryz.sizeOf5, show Tryz.prog.arrayLen 214 = 21 from by kernel_rfl]
      simp only [Result.andThen, slicedAt, if_neg s8, Addr.add, Nat.mul_one, Nat.zero_add]
      by_cases hp0 : p = 0
      · subst hp0; rfl
      · rw [if_neg hp0]
    obtain ⟨l1, hl1⟩ : ∃ l, l = UInt8.ofNat (48 + q % 10) :: tail := ⟨_, rfl⟩
    have hll : l1.length = 20 - p := by rw [hl1]; simp; omega
    have hsub : (48 + (q : Int) % 10) = ((UInt8.ofNat (48 + q % 10)).toNat : Int) := by rw [UInt8.toNat_ofNat', Nat.mod_eq_of_lt (by omega)]; omega
    have hw1 : (wr.setCell ⟨w.heap.size, p + 1, none⟩ (.int .u8 (48 + (q : Int) % 10))).heap[w.heap.size]? = some (.cells (Lib.byteCells (List.replicate (p + 1) 0 ++ l1)).toArray 214 (0, 0)) := by
      rw [hbl, hl1, ← xZfc (UInt8.ofNat (48 + q % 10)) 0 tail (p + 1), List.setIfInBounds_toArray, hsub]
      simp only [Lib.byteCells, List.map_set]
    have hw2 : ((wr.setCell ⟨w.heap.size, p + 1, none⟩ (.int .u8 (48 + (q : Int) % 10))).setCell ⟨w.heap.size, p, none⟩ (.int .u8 45)).heap[w.heap.size]? = some (.cells (Lib.byteCells (List.replicate p 0 ++ 45 :: l1)).toArray 214 (0, 0)) := by
      rw [Joins.block_setCell hw1, ← xZfc 45 0 l1 p, List.setIfInBounds_toArray]
      simp only [Lib.byteCells, List.map_set]
      rfl
    have hcv := fun (W : World) (o : Nat) (l : List UInt8) (cap : Nat) (hW : W.heap[w.heap.size]? = some (.cells (Lib.byteCells (List.replicate o 0 ++ l)).toArray 214 (0, 0))) => run_convert_bytes_back (P := Tryz.prog) W 188 9 5 ⟨w.heap.size, o, none⟩ cap l (by kernel_rfl) (by kernel_rfl) (by kernel_rfl) (fun i hi => by
        have ea : (⟨w.heap.size, o, none⟩ : Addr).add i = ⟨w.heap.size, o + i, none⟩ := by unfold Addr.add; split <;> simp [*]
        rw [ea, Lib.cell_of_heap hW, List.getElem?_toArray]
        simp [Lib.byteCells, List.getElem?_append_right, List.getElem?_eq_getElem hi])
    have cv1 := hcv _ (p + 1) l1 (20 - p) hw1
    have cv2 := hcv _ p (45 :: l1) (21 - p) hw2
    rw [hll] at cv1
    rw [show (45 :: l1).length = 21 - p by simp; omega] at cv2
    have hd2 : dgF 20 m = (if q / 10 = 0 then [] else dgF (19 - k) (q / 10)) ++ l1 := by
      rw [hdg, show 20 - k = (19 - k) + 1 by omega, dgF, hl1]; simp
    have hhi : (wr.setCell ⟨w.heap.size, p + 1, none⟩ (.int .u8 (48 + (q : Int) % 10))).heap[w.heap.size]? = some (.cells (Lib.byteCells (List.replicate (p + 1) 0 ++ l1)).toArray 214 (0, 0)) ∧ l1.length = k + 1 ∧ p + 1 + (k + 1) = 21 ∧ q < 10 ^ (19 - k) ∧ l1 = UInt8.ofNat (48 + q % 10) :: tail := ⟨hw1, by omega, by omega, hq, hl1⟩
    clear hjk hkq hq hk19 hdg hcv hw1 hw2 hl1 hsub
    go_wp2
    · go_ret
      rename_i hq0 hn
      have hq0' : q / 10 = 0 := by have := beq_iff_eq.1 hq0; omega
      rw [if_pos hq0', List.nil_append, hhi.2.2.2.2, ← xZnT] at hd2
      have e : whS n = 45 :: (48 + UInt8.ofNat (q % 10)) :: tail := by rw [whS, if_pos hn, hmm, hd2]; rfl
      rw [e]
      exact ⟨rfl, (hb.setCell (p := ⟨w.heap.size, p + 1, none⟩) (Nat.le_refl _) _).setCell (p := ⟨w.heap.size, p, none⟩) (Nat.le_refl _) _⟩
    · go_ret
      rename_i hq0 hn
      have hq0' : q / 10 = 0 := by have := beq_iff_eq.1 hq0; omega
      rw [if_pos hq0', List.nil_append, hhi.2.2.2.2, ← xZnT] at hd2
      have e : whS n = (48 + UInt8.ofNat (q % 10)) :: tail := by rw [whS, if_neg (by omega), hmm, hd2]; rfl
      rw [e]
      exact ⟨rfl, hb.setCell (p := ⟨w.heap.size, p + 1, none⟩) (Nat.le_refl _) _⟩
    · obtain ⟨hw1, hl, hjk, hq, hl1⟩ := hhi
      rename_i hq0
      have hq0' : ¬ (q / 10 = 0) := fun e => by have := beq_eq_false_iff_ne.1 hq0; omega
      refine ⟨⟨p + 1, k + 1, q / 10, l1, hjk, ?_, ?_, hw1, hb.setCell (p := ⟨w.heap.size, p + 1, none⟩) (Nat.le_refl _) _, hl, ?_, .inr hq0', ?_, by omega⟩, by simp only [intOf]; omega⟩
      · rw [show (p : Int) + 2 - 1 = ((p + 1 : Nat) : Int) by omega]
      · rw [show (q : Int) / 10 = ((q / 10 : Nat) : Int) by omega]
      · rw [hd2, if_neg hq0', show 20 - (k + 1) = 19 - k by omega]
      · refine Nat.div_lt_of_lt_mul ?_
        have e : 19 - k = 19 - (k + 1) + 1 := by omega
        rw [e, Nat.pow_succ, Nat.mul_comm] at hq
        exact hq
theorem xZhc (N : Nat) : xZd3.Ok prog N := by
  refine ⟨⟨Tryz.f113, Tryz.func113, by kernel_rfl, by kernel_rfl⟩, fun a r h => ?_⟩
  have h : xZ7Y N a.1 = some r := h
  unfold xZ7Y at h
  obtain ⟨h1, h2⟩ := xZ2I h
  obtain rfl := Option.some.inj h2
  intro M S w vs hh _ hsz hrep
  obtain ⟨v, rfl⟩ : ∃ v, vs = #[v] := by
    match vs, hsz with
    | ⟨[v]⟩, _ => exact ⟨v, rfl⟩
  have h0 : v = .int .i64 a.1 := VRep.v_eq (hrep 0 (Nat.zero_lt_one))
  subst h0
  obtain ⟨k1, k2⟩ := (Bool.and_eq_true _ _).mp h1
  refine (xZhZ a.1 (xZ14.1 k1) (xZ14.1 k2) w).mono ?_
  rintro e w' ⟨rfl, hb⟩
  have hg : Grew w w' := ⟨hb.os, hb.tape, hb.output, hb.size, hb.block⟩
  exact ⟨M, S, .data (.v _), hh.grew hg, .grew hh hg⟩
end
section
open Go Go.Shelf Go.RowKit Go.Proofs.Tryz
set_option maxHeartbeats 1000000
set_option maxRecDepth 1000000
theorem xZj1 (u : Nat) : ∀ k, (hxS k u).length = k
  | 0 => rfl
  | k + 1 => by simp [hxS, xZj1 u k]
theorem and15 (q : Nat) (h : q < 18446744073709551616) : bits .and .u64 (q : Int) 15 = ((q % 16 : Nat) : Int) := by
  have := bits_and_u64_nat q 15 h (by decide)
  rw [show ((15 : Nat) : Int) = 15 from rfl] at this
  rw [this, show q &&& 15 = q % 16 from Nat.and_two_pow_sub_one_eq_mod q 4]
theorem xZpi {k : Nat} (h : k < 16) : ({ data := #[48, 49, 50, 51, 52, 53, 54, 55, 56, 57, 97, 98, 99, 100, 101, 102] } : ByteArray)[k]'h = hexB k := by
  have : ∀ k : Fin 16, ({ data := #[48, 49, 50, 51, 52, 53, 54, 55, 56, 57, 97, 98, 99, 100, 101, 102] } : ByteArray)[k.1]'k.2 = hexB k.1 := by decide
  exact this ⟨k, h⟩
theorem xZoC {α : Type} (a x z : α) (r : List α) : ∀ j, (a :: (List.replicate (j + 1) z ++ r)).set (j + 1) x = a :: (List.replicate j z ++ x :: r)
  | 0 => rfl
  | j + 1 => by
    have := xZoC z x z r j
    simp only [List.replicate_succ, List.cons_append, List.set_cons_succ] at this ⊢
    rw [this]
theorem xZkd (u : Nat) (hu : u < 18446744073709551616) (w : World) :
    Calls Tryz.prog 114 #[.int .u64 (u : Int)] w fun e w' => e = .returned (.string (bs (bitS u))) ∧ Below w.heap.size w w' := by
  go_enter Tryz.func114, Tryz.ntmps114
  go_wp2
  go_loopw [0, 4] (fun x i wr => ∃ j k : Nat, j + k = 16 ∧ x = .int .u64 ((u / 16 ^ k : Nat) : Int) ∧ i = .int .i64 j ∧ wr.heap[w.heap.size]? = some (.cells (Lib.byteCells (35 :: (List.replicate j 0 ++ hxS k u))).toArray 215 (0, 0)) ∧ Below w.heap.size w wr) (fun _ i _ => (intOf i).toNat)
  case atStart =>
    refine ⟨16, 0, rfl, by simp, rfl, ?_, (Below.refl _ w).alloc (Nat.le_refl _) _⟩
    rw [heap_alloc_new]
    rfl
  case round =>
    obtain ⟨j, k, hjk, rfl, rfl, hh, hb⟩ := hrel
    have hsz := hb.size
    have hlen : (Lib.byteCells (35 :: (List.replicate j 0 ++ hxS k u))).length = 17 := by rw [Lib.byteCells_length]; simp [xZj1]; omega
    have hq' : u / 16 ^ k < 18446744073709551616 := Nat.lt_of_le_of_lt (Nat.div_le_self _ _) hu
    by_cases hj : j = 0
    · subst hj
      obtain rfl : k = 16 := by omega
      have hcv := fun (P : Program) (src dst e : TypeId) hs he hd => run_convert_bytes_back (P := P) wr src dst e ⟨w.heap.size, 0, none⟩ 17 (bitS u) hs he hd (fun i hi => by
        have ea : (⟨w.heap.size, 0, none⟩ : Addr).add i = ⟨w.heap.size, i, none⟩ := by simp [Addr.add]; exact fun h => h.symm
        rw [ea, Lib.cell_of_heap hh, List.getElem?_toArray]
        show (Lib.byteCells (bitS u))[i]? = _
        simp [Lib.byteCells, List.getElem?_eq_getElem hi])
      generalize u / 16 ^ 16 = q
      have hcv' := hcv Tryz.prog 188 9 5 (by kernel_rfl) (by kernel_rfl) (by kernel_rfl)
      rw [show (bitS u).length = 17 by simp [bitS, xZj1]] at hcv'
      clear hcv
      go_wp2
      go_ret
      exact ⟨rfl, hb⟩
    · obtain ⟨j, rfl⟩ : ∃ j', j = j' + 1 := ⟨j - 1, by omega⟩
      have h1 : (0 : Int) < ((j + 1 : Nat) : Int) := by omega
      have h2 : ((j + 1 : Nat) : Int) < 17 := by omega
      have h3 : j + 1 < 17 := by omega
      have c1 : ∃ v, wr.cell? ⟨w.heap.size, j + 1, none⟩ = some v := by
        rw [Lib.cell_of_heap hh]; exact ⟨(Lib.byteCells (35 :: (List.replicate (j + 1) 0 ++ hxS k u)))[j + 1]'(by omega), by simp only [List.getElem?_toArray]; exact List.getElem?_eq_getElem _⟩
      obtain ⟨v0, c1⟩ := c1
      have c2 : wr.frozen? ⟨w.heap.size, j + 1, none⟩ = false := Lib.frozen_of_heap hh (j + 1)
      have hbl := fun v => Joins.block_setCell (i := j + 1) hh v
      have hdd : u / 16 ^ k / 16 = u / 16 ^ (k + 1) := by rw [Nat.div_div_eq_div_mul, Nat.pow_succ]
      have hhx : hexB (u / 16 ^ k % 16) :: hxS k u = hxS (k + 1) u := rfl
      generalize u / 16 ^ k = q at *
      have hb15 := and15 q hq'
      have hk1 : q % 16 < 16 := by omega
      go_wp2
      refine ⟨⟨j, k + 1, by omega, by rw [← hdd]; simp, rfl, ?_, hb.setCell (p := ⟨w.heap.size, j + 1, none⟩) (Nat.le_refl _) _⟩, by simp only [intOf]; omega⟩
      rw [hbl, xZpi hk1, ← hhx, ← xZoC 35 (hexB (q % 16)) 0 (hxS k u) j, List.setIfInBounds_toArray]
      simp only [Lib.byteCells, List.map_set]
theorem xZim (N : Nat) : xZeC.Ok prog N := by
  refine ⟨⟨Tryz.f114, Tryz.func114, by kernel_rfl, by kernel_rfl⟩, fun a r h => ?_⟩
  have h : xZ9c N a.1 = some r := h
  unfold xZ9c at h
  obtain ⟨h1, h2⟩ := xZ2I h
  obtain rfl := Option.some.inj h2
  intro M S w vs hh _ hsz hrep
  obtain ⟨v, rfl⟩ : ∃ v, vs = #[v] := by
    match vs, hsz with
    | ⟨[v]⟩, _ => exact ⟨v, rfl⟩
  have h0 : v = .int .u64 a.1 := VRep.v_eq (hrep 0 (Nat.zero_lt_one))
  subst h0
  obtain ⟨k1, k2⟩ := (Bool.and_eq_true _ _).mp h1
  obtain ⟨u, hu⟩ : ∃ u : Nat, a.1 = (u : Int) := ⟨a.1.toNat, by have := xZ14.1 k1; omega⟩
  have k3 : a.1 < 18446744073709551616 := xZX.1 k2
  rw [hu] at k3 ⊢
  refine (xZkd u (by omega) w).mono ?_
  rintro e w' ⟨rfl, hb⟩
  have hg : Grew w w' := ⟨hb.os, hb.tape, hb.output, hb.size, hb.block⟩
  exact ⟨M, S, .data (.v _), hh.grew hg, .grew hh hg⟩
end
section
open Go Go.Shelf Go.RowKit Go.Proofs.Tryz
set_option maxHeartbeats 1000000
set_option maxRecDepth 1000000
theorem xZkV (x : List UInt8) : (bs x).size = x.length := by simp [bs, ByteArray.size]
theorem xZp8 (x : List UInt8) (c : UInt8) : Lib.byteCells x ++ [Value.int .u8 (c.toNat : Int)] = Lib.byteCells (x ++ [c]) := by rw [Lib.byteCells_append]; rfl
theorem xZpD (c : UInt8) : (txC c).length ≤ 3 := by
  unfold txC; split
  · decide
  · split <;> simp
theorem lx_le (l : List UInt8) : (l.flatMap txC).length ≤ 3 * l.length := by
  induction l with
  | nil => exact Nat.zero_le _
  | cons c l ih => have := xZpD c; simp only [List.flatMap_cons, List.length_append, List.length_cons]; omega
theorem xZp0 (c : UInt8) : txC c = if c.toNat = 39 then [39, 39] else if c.toNat < 32 ∨ 126 < c.toNat ∨ c.toNat = 92 then [92, hexB (c.toNat / 16), hexB (c.toNat % 16)] else [c] := by
  unfold txC
  simp only [UInt8.lt_iff_toNat_lt, ← UInt8.toNat_inj]
  rfl
theorem xZnJ {k : Nat} (h : k < 16) : ({ data := #[48, 49, 50, 51, 52, 53, 54, 55, 56, 57, 97, 98, 99, 100, 101, 102] } : ByteArray)[k]'h = hexB k := by
  have : ∀ k : Fin 16, ({ data := #[48, 49, 50, 51, 52, 53, 54, 55, 56, 57, 97, 98, 99, 100, 101, 102] } : ByteArray)[k.1]'k.2 = hexB k.1 := by decide
  exact this ⟨k, h⟩
theorem xZcj {w wr : World} {x : List UInt8} (v : Int) (hI : Lib.IsBuilderF 218 5 w.heap.size w.heap.size (Lib.byteCells x) wr) (hb : Below w.heap.size w wr) (hq : x.length ≤ 100000000000) :
    Calls Tryz.prog 145 #[.pointer (some ⟨w.heap.size, 0, none⟩), .int .u8 v] wr fun e W => e = .returned .nilIface ∧ (∀ c : UInt8, v = (c.toNat : Int) → Lib.IsBuilderF 218 5 w.heap.size w.heap.size (Lib.byteCells (x ++ [c])) W) ∧ Below w.heap.size w W := by
  refine (Any.Builder_WriteByte_k lays167 bextra w.heap.size w.heap.size _ v _ hI (by rw [Lib.byteCells_length]; omega) hb.size).mono ?_
  rintro e W ⟨rfl, h, b, _⟩
  refine ⟨rfl, fun c hc => Or.inr ?_, hb.trans b⟩
  subst hc
  rw [← xZp8]; exact h
theorem xZmK (l : List UInt8) (w : World) (hlen : l.length ≤ 10000000000) :
    Calls Tryz.prog 115 #[.string (bs l)] w fun e w' => e = .returned (.string (bs (txS l))) ∧ Below w.heap.size w w' := by
  have hat : ∀ pre c rest, l = pre ++ c :: rest → ∃ h : pre.length < (bs l).size, (bs l)[pre.length]'h = c := fun pre c rest h => by
    subst h
    refine ⟨by rw [xZkV]; simp, ?_⟩
    exact (by simp : (pre ++ c :: rest).toArray[pre.length]'(by simp) = c)
  have hn' : l.length = (bs l).size := by rw [xZkV]
  obtain ⟨T, hT⟩ : ∃ T, T = txS l := ⟨_, rfl⟩
  rw [← hT]
  generalize bs l = B at *
  obtain ⟨n, hn⟩ : ∃ n, B.size = n := ⟨_, rfl⟩
  rw [hn] at hn'
  go_enter Tryz.func115, Tryz.ntmps115
  go_wp2_with (go_at_call 145; refine (xZcj (x := []) 39 (Lib.IsBuilderF.of (Lib.fresh_isBuilder 218 5 w)) ((Below.refl _ w).alloc (Nat.le_refl _) _) (by simp)).mono ?_)
  rintro e W0 ⟨rfl, h0, b0⟩
  have h0 := h0 39 rfl
  go_wp2
  go_loopw [9] (fun i wr => ∃ (pre rest : List UInt8), l = pre ++ rest ∧ i = .int .i64 pre.length ∧ Lib.IsBuilderF 218 5 w.heap.size w.heap.size (Lib.byteCells ([39] ++ pre.flatMap txC)) wr ∧ Below w.heap.size w wr) (fun i _ => n - (intOf i).toNat)
  case atStart => exact ⟨[], l, rfl, rfl, h0, b0⟩
  case round =>
    obtain ⟨pre, rest, hl, rfl, hI, hb⟩ := hrel
    have hsz := hb.size
    have htx := lx_le pre
    cases rest with
    | nil =>
      have hc : ¬ ((pre.length : Int) < (n : Int)) := by rw [← hn', hl]; simp
      rw [List.append_nil] at hl
      have hq : ([39] ++ pre.flatMap txC).length ≤ 100000000000 := by subst hl; simp only [List.length_append, List.length_cons, List.length_nil]; omega
      clear hlen hat htx
      subst hl
      go_wp2_with (first | (go_at_call 145; refine (xZcj 39 hI hb hq).mono ?_; rintro e W1 ⟨rfl, h1, b1⟩; have h1 := h1 39 rfl) | (go_at_call 147; refine (Any.Builder_String_any_k lays169 bextra w.heap.size w.heap.size _ _ h1 (by have := b1.size; omega)).mono ?_; rintro e W2 ⟨rfl, _, b2, _⟩))
      go_ret
      exact ⟨by rw [hT]; rfl, b1.trans b2⟩
    | cons c rest =>
      have hlp : pre.length < l.length := by rw [hl]; simp
      have hc : ((pre.length : Int) < (n : Int)) := by omega
      have hlt : pre.length < n := by omega
      obtain ⟨hx1, hx⟩ := hat pre c rest hl
      have hq : ([39] ++ pre.flatMap txC).length ≤ 100000000000 - 10 := by simp only [List.length_append, List.length_cons, List.length_nil]; omega
      clear hat
      have hq1 : ([39] ++ pre.flatMap txC).length ≤ 100000000000 := by omega
      have hq2 : (([39] ++ pre.flatMap txC) ++ [92]).length ≤ 100000000000 := by rw [List.length_append]; simp only [List.length_cons, List.length_nil]; omega
      have hq3 : ∀ d : UInt8, ((([39] ++ pre.flatMap txC) ++ [92]) ++ [d]).length ≤ 100000000000 := fun d => by rw [List.length_append, List.length_append]; simp only [List.length_cons, List.length_nil]; omega
      have h256 : c.toNat < 256 := c.toNat_lt
      have hk1 : c.toNat / 16 < 16 := by omega
      have hk2 : c.toNat % 16 < 16 := by omega
      go_wp2_with (first
        | (go_at_call 145; refine (xZcj _ hI hb hq1).mono ?_; rintro e W1 ⟨rfl, h1, b1⟩; first | have h1 := h1 92 rfl | have h1 := h1 c rfl)
        | (go_at_call 145; refine (xZcj _ h1 b1 hq2).mono ?_; rintro e W2 ⟨rfl, h2, b2⟩; have h2 := h2 _ rfl)
        | (go_at_call 145; refine (xZcj _ h2 b2 (hq3 _)).mono ?_; rintro e W3 ⟨rfl, h3, b3⟩; have h3 := h3 _ rfl)
        | (go_at_call 146; refine (Any.Builder_WriteString_k lays166 bextra w.heap.size w.heap.size _ _ _ hI (by rw [Lib.byteCells_length]; exact Nat.le_trans (Nat.add_le_add hq1 (Nat.le_refl _)) (by decide)) hsz).mono ?_; rintro e W1 ⟨rfl, h1, b1, _⟩))
      all_goals
        refine ⟨⟨pre ++ [c], rest, by rw [hl]; simp, by simp, ?_, by first | assumption | exact hb.trans (by assumption)⟩, by simp only [intOf]; omega⟩
        rw [show [39] ++ (pre ++ [c]).flatMap txC = ([39] ++ pre.flatMap txC) ++ txC c by simp, xZp0]
        clear hT hl hn' hn hc hlt hlp hx hx1
        try simp only [beq_iff_eq, beq_eq_false_iff_ne, ne_eq] at *
        first
          | (rw [if_pos (by omega)]
             rw [show Lib.strCells { data := #[39, 39] } = Lib.byteCells [39, 39] from rfl, ← Lib.byteCells_append] at h1
             exact Or.inr h1)
          | (rw [if_neg (by omega), if_pos (by omega)]
             rw [xZnJ hk1, xZnJ hk2] at h3
             simpa only [List.append_assoc, List.cons_append, List.nil_append] using h3)
          | (rw [if_neg (by omega), if_neg (by omega)]; exact h1)
theorem xZiw (N : Nat) : xZei.Ok prog N := by
  refine ⟨⟨Tryz.f115, Tryz.func115, by kernel_rfl, by kernel_rfl⟩, fun a r h => ?_⟩
  have h : xZ9b N a.1 = some r := h
  unfold xZ9b at h
  obtain ⟨h1, h2⟩ := xZ2I h
  obtain rfl := Option.some.inj h2
  intro M S w vs hh _ hsz hrep
  obtain ⟨v, rfl⟩ : ∃ v, vs = #[v] := by
    match vs, hsz with
    | ⟨[v]⟩, _ => exact ⟨v, rfl⟩
  have h0 : v = .string (bs a.1) := VRep.v_eq (hrep 0 (Nat.zero_lt_one))
  subst h0
  refine (xZmK a.1 w (Nat.le_of_ble_eq_true h1)).mono ?_
  rintro e w' ⟨rfl, hb⟩
  have hg : Grew w w' := ⟨hb.os, hb.tape, hb.output, hb.size, hb.block⟩
  exact ⟨M, S, .data (.v _), hh.grew hg, .grew hh hg⟩
end
section
open Go Go.RowKit Go.Extern.Stop Go.Stop Go.Extern Go.Proofs.Tryz
set_option maxHeartbeats 4000000
set_option maxRecDepth 1000000
theorem xZfW (t : Addr) (w : World) : (ReflectliteValue.unpack (.iface 128 (.pointer (some t)))).run Tryz.prog w
    = .ok (.agg #[.pointer (some ⟨3, 128, none⟩), .pointer (some ⟨w.heap.size, 0, none⟩), .int .u64 150]) (w.alloc (.cells #[.pointer (some t)] 128)) := by kernel_rfl
theorem xZkj (a : Addr) (w : World) : (ReflectliteValue.methodAny (ReflectliteValue.valueError "reflectlite.Value.Type" 0) (fun t _ _ _ => ReflectliteType.toType t) #[.agg #[.pointer (some ⟨3, 128, none⟩), .pointer (some a), .int .u64 150]]).run Tryz.prog w
    = .ok (.iface 160 (.agg #[.pointer (some ⟨3, 128, none⟩)])) w := by kernel_rfl
theorem xZef (h : Value) (w : World) : (Go.method 397 160 (.agg #[h]) "Kind").run Tryz.prog w = .ok (217, h) w := by kernel_rfl
theorem xZjL (w : World) : ((ReflectliteType.abiMethod fun t => (fun a : Nat => Value.int IntKind.u8 (a : Int)) <$> Rtype.kind t) #[.pointer (some ⟨3, 128, none⟩)]).run Tryz.prog w = .ok (.int .u8 22) w := by kernel_rfl
theorem xZk1 (w : World) : ((ReflectliteType.abiMethod fun t => (fun a : Nat => Value.int IntKind.u8 (a : Int)) <$> Rtype.kind t) #[.pointer (some ⟨3, 84, none⟩)]).run Tryz.prog w = .ok (.int .u8 22) w := by kernel_rfl
theorem xZnc (z : Sem Value) (f : TypeId → Addr → Nat → Nat → Sem Value) (v : Value) :
    ReflectliteValue.method z f #[v] = (do match ← ReflectliteValue.parts v with | none => z | some (t, a, fl) => f t a fl (fl % 32)) := rfl
theorem xZeV (a : Addr) (w : World) : (ReflectliteValue.parts (.agg #[.pointer (some ⟨3, 128, none⟩), .pointer (some a), .int .u64 150])).run Tryz.prog w = .ok (some (128, a, 150)) w := by kernel_rfl
theorem xZig (a p : Addr) (W : World) (ha : W.cell? a = some (.pointer (some p))) :
    (ReflectliteValue.method (ReflectliteValue.valueError "reflectlite.Value.IsNil" 0) ReflectliteValue.isNil #[.agg #[.pointer (some ⟨3, 128, none⟩), .pointer (some a), .int .u64 150]]).run Tryz.prog W = .ok (.bool false) W := by
  rw [xZnc]
  simp only [Sem.run_bind, xZeV, Result.andThen]
  simp [ReflectliteValue.isNil, loadVar, isAgg, underlying, Tryz.underlying128, ha, Result.andThen]
theorem xZeW (h : Value) (w : World) : (Go.method 397 160 (.agg #[h]) "Elem").run Tryz.prog w = .ok (229, .agg #[h]) w := by kernel_rfl
theorem xZax (h : Value) (w : World) : (Go.method 397 160 (.agg #[h]) "Implements").run Tryz.prog w = .ok (230, .agg #[h]) w := by kernel_rfl
theorem xZ9w (h : Value) (w : World) : (Go.method 397 160 (.agg #[h]) "AssignableTo").run Tryz.prog w = .ok (227, .agg #[h]) w := by kernel_rfl
theorem xZkm (w : World) : (ReflectliteType.method ReflectliteType.elem #[.agg #[.pointer (some ⟨3, 128, none⟩)]]).run Tryz.prog w = .ok (.iface 160 (.agg #[.pointer (some ⟨3, 84, none⟩)])) w := by kernel_rfl
theorem xZcC (w : World) : (ReflectliteType.relation "Implements" ReflectliteType.implements_ #[.agg #[.pointer (some ⟨3, 84, none⟩)], .iface 160 (.agg #[.pointer (some ⟨3, 27, none⟩)])]).run Tryz.prog w = .ok (.bool true) w := by kernel_rfl
theorem xZhk (v : Value) (w : World) : (ReflectliteType.typeOf #[.iface 84 v]).run Tryz.prog w = .ok (.iface 160 (.agg #[.pointer (some ⟨3, 84, none⟩)])) w := by kernel_rfl
theorem xZcQ (w : World) : (ReflectliteType.relation "AssignableTo" ReflectliteType.assignableTo #[.agg #[.pointer (some ⟨3, 84, none⟩)], .iface 160 (.agg #[.pointer (some ⟨3, 84, none⟩)])]).run Tryz.prog w = .ok (.bool true) w := by kernel_rfl
theorem xZfP (e : Addr) (w : World) : (ReflectliteValue.unpack (.iface 84 (.pointer (some e)))).run Tryz.prog w
    = .ok (.agg #[.pointer (some ⟨3, 84, none⟩), .pointer (some ⟨w.heap.size, 0, none⟩), .int .u64 150]) (w.alloc (.cells #[.pointer (some e)] 84)) := by kernel_rfl
theorem xZh7 (w : World) : (Rtype.elem? 128).run Tryz.prog w = .ok (some 84) w := by kernel_rfl
theorem xZmI (p : Addr) (w : World) : (ReflectliteValue.mk 84 p ReflectliteValue.flagAddr).run Tryz.prog w = .ok (.agg #[.pointer (some ⟨3, 84, none⟩), .pointer (some p), .int .u64 406]) w := by kernel_rfl
theorem xZj4 (a p : Addr) (W : World) (ha : W.cell? a = some (.pointer (some p))) :
    (ReflectliteValue.method (ReflectliteValue.valueError "reflectlite.Value.Elem" 0) ReflectliteValue.elem #[.agg #[.pointer (some ⟨3, 128, none⟩), .pointer (some a), .int .u64 150]]).run Tryz.prog W
      = .ok (.agg #[.pointer (some ⟨3, 84, none⟩), .pointer (some p), .int .u64 406]) W := by
  rw [xZnc]
  simp only [Sem.run_bind, xZeV, Result.andThen]
  simp [ReflectliteValue.elem, loadVar, isAgg, underlying, Tryz.underlying128, ha, Result.andThen, xZh7, xZmI]
theorem xZqb (v x : Value) : ReflectliteValue.set #[v, x] = (do
    let (some (dst, a, fl), some (src, b, _)) := (← ReflectliteValue.parts v, ← ReflectliteValue.parts x)
      | unsupported (.noEntry "extern/(internal/reflectlite.Value).Set.zeroValue")
    if fl / ReflectliteValue.flagAddr % 2 == 0 then unsupported (.noEntry "extern/(internal/reflectlite.Value).Set.unaddressable")
    let val ← loadVar src b
    if ← Rtype.directlyAssignable dst src then storeVar dst a val
    else if ← Rtype.implements dst src then
      if (← Rtype.kind src) == 20 then
        match val with
        | .nilIface => unsupported (.noEntry "extern/reflectlite: a nil value of one interface type handed on as a value of another")
        | _ => storeVar dst a val
      else storeVar dst a (.iface src val)
    else panicString ("reflectlite.Set: value of type " ++ (← Rtype.spelt src) ++ " is not assignable to type " ++ (← Rtype.spelt dst))
    pure (.tuple #[])) := rfl
theorem xZhn (a : Addr) (w : World) : (ReflectliteValue.parts (.agg #[.pointer (some ⟨3, 84, none⟩), .pointer (some a), .int .u64 406])).run Tryz.prog w = .ok (some (84, a, 406)) w := by kernel_rfl
theorem xZhU (a : Addr) (w : World) : (ReflectliteValue.parts (.agg #[.pointer (some ⟨3, 84, none⟩), .pointer (some a), .int .u64 150])).run Tryz.prog w = .ok (some (84, a, 150)) w := by kernel_rfl
theorem xZhu (w : World) : (Rtype.directlyAssignable 84 84).run Tryz.prog w = .ok true w := by kernel_rfl
theorem xZlo (ta b e : Addr) (old : Value) (W : World) (hb : W.cell? b = some (.pointer (some e))) (ht : W.cell? ta = some old) (hf : W.frozen? ta = false) :
    (ReflectliteValue.set #[.agg #[.pointer (some ⟨3, 84, none⟩), .pointer (some ta), .int .u64 406], .agg #[.pointer (some ⟨3, 84, none⟩), .pointer (some b), .int .u64 150]]).run Tryz.prog W
      = .ok (.tuple #[]) (W.setCell ta (.pointer (some e))) := by
  rw [xZqb]
  simp only [Sem.run_bind, xZhn, xZhU, Result.andThen]
  simp [ReflectliteValue.flagAddr, loadVar, isAgg, underlying, Tryz.underlying84, hb, Result.andThen, xZhu, storeVar, Value.cells, storeCells, Addr.add]
  rw [run_store Tryz.prog W ta _ _ (by rfl)]
  simp [ht, hf]
set_option maxHeartbeats 4000000 in
theorem xZp9 (e t : Addr) (old : Value) (w : World) (hg : w.cell? ⟨0, 0, none⟩ = some (.iface 160 (.agg #[.pointer (some ⟨3, 27, none⟩)]))) (ht0 : w.cell? t = some old) (hf0 : w.frozen? t = false) :
    Calls Tryz.prog 36 #[.iface 84 (.pointer (some e)), .iface 128 (.pointer (some t))] w fun ev w' => ev = .returned (.bool true) ∧ w' = ((((w.alloc (.cells #[.pointer (some t)] 128)).alloc (.cells #[.pointer (some ⟨3, 128, none⟩), .pointer (some ⟨w.heap.size, 0, none⟩), .int .u64 150] 132)).alloc (.cells #[.pointer (some ⟨3, 128, none⟩), .pointer (some ⟨w.heap.size, 0, none⟩), .int .u64 150] 132)).alloc (.cells #[.pointer (some e)] 84)).setCell t (.pointer (some e)) := by
  have h6 := @run_callFunc_extern Tryz.prog 68 _ (fun args => ReflectliteValue.unpack (args.getD 0 (.tuple #[]))) Tryz.func68 (by kernel_rfl) (by kernel_rfl) (by kernel_rfl) (by kernel_rfl)
  have h7 := @run_callFunc_extern Tryz.prog 69 _ (ReflectliteValue.methodAny (ReflectliteValue.valueError "reflectlite.Value.Type" 0) (fun t _ _ _ => ReflectliteType.toType t)) Tryz.func69 (by kernel_rfl) (by kernel_rfl) (by kernel_rfl) (by kernel_rfl)
  have h8 := @run_callFunc_extern Tryz.prog 70 _ (ReflectliteValue.method (ReflectliteValue.valueError "reflectlite.Value.IsNil" 0) ReflectliteValue.isNil) Tryz.func70 (by kernel_rfl) (by kernel_rfl) (by kernel_rfl) (by kernel_rfl)
  have h27 := @run_callFunc_extern Tryz.prog 217 _ (ReflectliteType.abiMethod fun t => do pure (.int .u8 (← Rtype.kind t))) Tryz.func217 (by kernel_rfl) (by kernel_rfl) (by kernel_rfl) (by kernel_rfl)
  have h37 := @run_callFunc_extern Tryz.prog 229 _ (ReflectliteType.method ReflectliteType.elem) Tryz.func229 (by kernel_rfl) (by kernel_rfl) (by kernel_rfl) (by kernel_rfl)
  have h38 := @run_callFunc_extern Tryz.prog 230 _ (ReflectliteType.relation "Implements" ReflectliteType.implements_) Tryz.func230 (by kernel_rfl) (by kernel_rfl) (by kernel_rfl) (by kernel_rfl)
  have h10 := @run_callFunc_extern Tryz.prog 72 _ ReflectliteType.typeOf Tryz.func72 (by kernel_rfl) (by kernel_rfl) (by kernel_rfl) (by kernel_rfl)
  have h35 := @run_callFunc_extern Tryz.prog 227 _ (ReflectliteType.relation "AssignableTo" ReflectliteType.assignableTo) Tryz.func227 (by kernel_rfl) (by kernel_rfl) (by kernel_rfl) (by kernel_rfl)
  have h11 := @run_callFunc_extern Tryz.prog 108 _ (ReflectliteValue.method (ReflectliteValue.valueError "reflectlite.Value.Elem" 0) ReflectliteValue.elem) Tryz.func108 (by kernel_rfl) (by kernel_rfl) (by kernel_rfl) (by kernel_rfl)
  have h12 := @run_callFunc_extern Tryz.prog 109 _ ReflectliteValue.set Tryz.func109 (by kernel_rfl) (by kernel_rfl) (by kernel_rfl) (by kernel_rfl)
  have tO := xZhk
  have mA := xZ9w
  have a25 := xZcQ
  have v25 := xZfP
  have f6 := xZfW
  have f7 := xZkj
  have mK := xZef
  have mE := xZeW
  have mI := xZax
  have k27 := xZjL
  have k25 := xZk1
  have e27 := xZkm
  have i25 := xZcC
  have n8 := xZig ⟨w.heap.size, 0, none⟩ t ((w.alloc (.cells #[.pointer (some t)] 128)).alloc (.cells #[.pointer (some ⟨3, 128, none⟩), .pointer (some ⟨w.heap.size, 0, none⟩), .int .u64 150] 132)) (by simp)
  have hlt : 0 < w.heap.size := by
    rcases Nat.lt_or_ge 0 w.heap.size with h | h
    · exact h
    · simp [World.cell?, Array.getElem?_eq_none h] at hg
  have hg2 : ((w.alloc (.cells #[.pointer (some t)] 128)).alloc (.cells #[.pointer (some ⟨3, 128, none⟩), .pointer (some ⟨w.heap.size, 0, none⟩), .int .u64 150] 132)).cell? ⟨0, 0, none⟩ = some (.iface 160 (.agg #[.pointer (some ⟨3, 27, none⟩)])) := by
    rw [World.cell?_alloc_lt _ _ ⟨0, 0, none⟩ (by simp), World.cell?_alloc_lt _ _ ⟨0, 0, none⟩ hlt]; exact hg
  have htl : t.block < w.heap.size := by
    rcases Nat.lt_or_ge t.block w.heap.size with h | h
    · exact h
    · simp [World.cell?, Array.getElem?_eq_none h] at ht0
  have el := xZj4 ⟨w.heap.size, 0, none⟩ t (((w.alloc (.cells #[.pointer (some t)] 128)).alloc (.cells #[.pointer (some ⟨3, 128, none⟩), .pointer (some ⟨w.heap.size, 0, none⟩), .int .u64 150] 132)).alloc (.cells #[.pointer (some ⟨3, 128, none⟩), .pointer (some ⟨w.heap.size, 0, none⟩), .int .u64 150] 132)) (by rw [World.cell?_alloc_lt _ _ ⟨w.heap.size, 0, none⟩ (by simp; omega)]; simp)
  have st := xZlo t ⟨w.heap.size + 1 + 1 + 1, 0, none⟩ e old ((((w.alloc (.cells #[.pointer (some t)] 128)).alloc (.cells #[.pointer (some ⟨3, 128, none⟩), .pointer (some ⟨w.heap.size, 0, none⟩), .int .u64 150] 132)).alloc (.cells #[.pointer (some ⟨3, 128, none⟩), .pointer (some ⟨w.heap.size, 0, none⟩), .int .u64 150] 132)).alloc (.cells #[.pointer (some e)] 84))
    (by rw [World.cell?_alloc_at _ _ _ _ (by simp)]; rfl)
    (by rw [World.cell?_alloc_lt _ _ t (by simp; omega), World.cell?_alloc_lt _ _ t (by simp; omega), World.cell?_alloc_lt _ _ t (by simp; omega), World.cell?_alloc_lt _ _ t htl]; exact ht0)
    (by rw [World.frozen?_alloc_old _ _ t (by simp; omega), World.frozen?_alloc_old _ _ t (by simp; omega), World.frozen?_alloc_old _ _ t (by simp; omega), World.frozen?_alloc_old _ _ t (Nat.ne_of_lt htl)]; exact hf0)
  go_enter Tryz.func36, Tryz.ntmps36
  go_wp2
  refine wp_loop_rounds 1 ?_
  rw [rounds_succ]
  go_wp2
  go_ret
  exact ⟨rfl, rfl⟩
theorem xZms (p : Addr) (w : World) (hg : w.cell? ⟨0, 0, none⟩ = some (.iface 160 (.agg #[.pointer (some ⟨3, 27, none⟩)]))) (hlt : 0 < w.heap.size) : Calls Tryz.prog 35 #[.iface 84 (.pointer (some p))] w fun e w' => e = .returned (.pointer (some p)) ∧ Below w.heap.size w w' := by
  have hgA : (w.alloc (.cells #[.pointer none] 84)).cell? ⟨0, 0, none⟩ = some (.iface 160 (.agg #[.pointer (some ⟨3, 27, none⟩)])) := by
    rw [World.cell?_alloc_lt _ _ ⟨0, 0, none⟩ hlt]; exact hg
  have htA : (w.alloc (.cells #[.pointer none] 84)).cell? ⟨w.heap.size, 0, none⟩ = some (.pointer none) := by simp
  have hfA : (w.alloc (.cells #[.pointer none] 84)).frozen? ⟨w.heap.size, 0, none⟩ = false := by simp
  go_enter Tryz.func35, Tryz.ntmps35
  go_wp2_with (go_at_call 36; refine (xZp9 _ _ (.pointer none) _ hgA htA hfA).mono ?_; rintro e w' ⟨rfl, rfl⟩)
  go_ret
  refine ⟨rfl, ?_⟩
  exact (((((Below.refl _ w).alloc (Nat.le_refl _) _).alloc (by simp) _).alloc (by simp; omega) _).alloc (by simp; omega) _).alloc (by simp; omega) _
theorem xZam (N : Nat) : xZ8z.Ok prog N := by
  refine ⟨⟨Tryz.f35, Tryz.func35, by kernel_rfl, by kernel_rfl⟩, fun a r h => ?_⟩
  obtain ⟨⟨n, p, ⟨⟩⟩, ⟨⟩⟩ := a
  have h : xZ4D N n p = some r := h
  obtain rfl := Option.some.inj h
  intro M S w vs hh hp hsz hrep
  obtain ⟨v, rfl⟩ : ∃ v, vs = #[v] := by
    match vs, hsz with
    | ⟨[v]⟩, _ => exact ⟨v, rfl⟩
  obtain ⟨u, hu, h1⟩ := xZey (hrep 0 (Nat.zero_lt_one))
  have hu : v = .iface 84 u := hu
  subst hu
  have hq : ∃ q, u = .pointer (some q) := by
    cases h1 with | data h1 => cases h1; exact ⟨_, rfl⟩
  obtain ⟨q, rfl⟩ := hq
  obtain ⟨h2, _, h3⟩ := hp _ _ (show envCell prog = some (0, .iface 160 (.agg #[.pointer (some ⟨3, 27, none⟩)])) from by kernel_rfl)
  refine (xZms q w h2 h3).mono ?_
  rintro e w' ⟨rfl, hb⟩
  have hg : Grew w w' := ⟨hb.os, hb.tape, hb.output, hb.size, hb.block⟩
  exact ⟨M, S, VRep.grew hh hg h1, hh.grew hg, .grew hh hg⟩
end
section
open Go.Proofs.Tryz
set_option maxRecDepth 1000000
noncomputable section
noncomputable def xZhz : Fn xZ9s := ⟨f86, [], ⟨[], [], sbf, bof⟩, [], [true], none, 0, 0, fun _ _ => true, none⟩
theorem xZhw : xZhz.Ok prog := ⟨Is.of (by kernel_rfl) (by kernel_rfl), by kernel_rfl, xZc sb_ok bo_ok, trivial, trivial, fun _ => by kernel_rfl⟩
theorem xZd4 (N : Nat) : xZ9s.Ok prog N := xZhw.give tb_ok hm N N trivial fun a r s h => by
  exact s.main [] trivial (.trans (by kernel_rfl) h)
noncomputable def xZ8X : Fn xZV := ⟨f89, [], ⟨[], [], sbf, bof⟩, [xZ5D], [false], none, 1, 1, fun _ _ => true, none⟩
theorem xZ8M : xZ8X.Ok prog := ⟨Is.of (by kernel_rfl) (by kernel_rfl), by kernel_rfl, xZc sb_ok bo_ok, trivial, trivial, fun _ => by kernel_rfl⟩
theorem xZ1O (N : Nat) : xZV.Ok prog N := xZ8M.give tb_ok hm N N ⟨xZ7t N, trivial⟩ fun a r s h => by
  exact s.main [] trivial (.trans (by kernel_rfl) h)
noncomputable def xZhv : Fn xZ7K := ⟨f87, [], ⟨[], [], sbf, bof⟩, [], [true], none, 0, 0, fun _ _ => true, none⟩
theorem xZhl : xZhv.Ok prog := ⟨Is.of (by kernel_rfl) (by kernel_rfl), by kernel_rfl, xZc sb_ok bo_ok, trivial, trivial, fun _ => by kernel_rfl⟩
theorem xZaR (N : Nat) : xZ7K.Ok prog N := xZhl.give tb_ok hm N N trivial fun a r s h => by
  exact s.main [] trivial (.trans (by kernel_rfl) h)
noncomputable def xZiD : Fn xZco := ⟨f120, [], ⟨[], [], sbf, bof⟩, [xZ9s, xZ7K], [true], none, 0, 0, fun _ _ => true, none⟩
theorem xZin : xZiD.Ok prog := ⟨Is.of (by kernel_rfl) (by kernel_rfl), by kernel_rfl, xZc sb_ok bo_ok, trivial, trivial, fun _ => by kernel_rfl⟩
theorem xZiS (N : Nat) : xZco.Ok prog N := xZin.give tb_ok hm N N ⟨xZd4 N, xZaR N, trivial⟩ fun a r s h => by
  exact s.main [] trivial (.trans (by kernel_rfl) h)
noncomputable def xZ7R : Fn xZ32 := ⟨f119, [], ⟨[], [], sbf, bof⟩, [xZco], [true], none, 1, 1, fun _ _ => true, none⟩
theorem xZ7B : xZ7R.Ok prog := ⟨Is.of (by kernel_rfl) (by kernel_rfl), by kernel_rfl, xZc sb_ok bo_ok, trivial, trivial, fun _ => by kernel_rfl⟩
theorem xZ7J (N : Nat) : xZ32.Ok prog N := xZ7B.give tb_ok hm N N ⟨xZiS N, trivial⟩ fun a r s h => by
  have l0 := s.loop 0 xZ1B (xZ3P N) N fun next0 h0 => by
    exact fun c v => s.seg 0 xZ1B [(0, .of xZ1B next0)] ⟨h0, trivial⟩ (by kernel_rfl) (by kernel_rfl)
  exact s.main [(0, .of xZ1B (xZ6e N))] ⟨l0, trivial⟩ (.trans (by kernel_rfl) h)
noncomputable def xZdJ : Fn xZ8C := ⟨f122, [], ⟨[], [], sbf, bof⟩, [], [true], none, 0, 0, fun _ _ => true, none⟩
theorem xZde : xZdJ.Ok prog := ⟨Is.of (by kernel_rfl) (by kernel_rfl), by kernel_rfl, xZc sb_ok bo_ok, trivial, trivial, fun _ => by kernel_rfl⟩
theorem xZdq (N : Nat) : xZ8C.Ok prog N := xZde.give tb_ok hm N N trivial fun a r s h => by
  exact s.main [] trivial (.trans (by kernel_rfl) h)
noncomputable def xZ98 : Fn xZZ := ⟨f121, [], ⟨[(24, 0)], [], sbf, bof⟩, [], [false], none, 1, 1, fun _ _ => true, none⟩
theorem xZ9e : xZ98.Ok prog := ⟨Is.of (by kernel_rfl) (by kernel_rfl), by kernel_rfl, xZc sb_ok bo_ok, trivial, trivial, fun _ => by kernel_rfl⟩
theorem xZ1Z (N : Nat) : xZZ.Ok prog N := xZ9e.give tb_ok hm N N trivial fun a r s h => by
  exact s.main [] trivial (.trans (by kernel_rfl) h)
noncomputable def xZbt : Fn xZ4a := ⟨f83, [], ⟨[], [], sbf, bof⟩, [], [true], none, 0, 0, fun _ _ => true, none⟩
theorem xZbG : xZbt.Ok prog := ⟨Is.of (by kernel_rfl) (by kernel_rfl), by kernel_rfl, xZc sb_ok bo_ok, trivial, trivial, fun _ => by kernel_rfl⟩
theorem xZ8H (N : Nat) : xZ4a.Ok prog N := xZbG.give tb_ok hm N N trivial fun a r s h => by
  exact s.main [] trivial (.trans (by kernel_rfl) h)
noncomputable def xZ8Y : Fn xZ3h := ⟨f90, [], ⟨[], [], sbf, bof⟩, [xZ32, xZ8C, xZZ, xZ4a, xZV], [false], none, 1, 1, fun _ _ => true, none⟩
theorem xZ8N : xZ8Y.Ok prog := ⟨Is.of (by kernel_rfl) (by kernel_rfl), by kernel_rfl, xZc sb_ok bo_ok, trivial, trivial, fun _ => by kernel_rfl⟩
theorem xZ8R (N : Nat) : xZ3h.Ok prog N := xZ8N.give tb_ok hm N N ⟨xZ7J N, xZdq N, xZ1Z N, xZ8H N, xZ1O N, trivial⟩ fun a r s h => by
  exact s.main [] trivial (.trans (by kernel_rfl) h)
noncomputable def xZ7L : Fn xZ2X := ⟨f119, [], ⟨[], [], sbf, bof⟩, [xZ7K], [true], none, 1, 1, fun _ _ => true, none⟩
theorem xZ7N : xZ7L.Ok prog := ⟨Is.of (by kernel_rfl) (by kernel_rfl), by kernel_rfl, xZc sb_ok bo_ok, trivial, trivial, fun _ => by kernel_rfl⟩
theorem xZ7U (N : Nat) : xZ2X.Ok prog N := xZ7N.give tb_ok hm N N ⟨xZaR N, trivial⟩ fun a r s h => by
  have l0 := s.loop 0 xZ1L (xZ3O N) N fun next0 h0 => by
    exact fun c v => s.seg 0 xZ1L [(0, .of xZ1L next0)] ⟨h0, trivial⟩ (by kernel_rfl) (by kernel_rfl)
  exact s.main [(0, .of xZ1L (xZ6c N))] ⟨l0, trivial⟩ (.trans (by kernel_rfl) h)
noncomputable def xZeK : Fn xZ6K := ⟨f78, [], ⟨[], [], sbf, bof⟩, [], [true], none, 0, 0, fun _ _ => true, none⟩
theorem xZeu : xZeK.Ok prog := ⟨Is.of (by kernel_rfl) (by kernel_rfl), by kernel_rfl, xZc sb_ok bo_ok, trivial, trivial, fun _ => by kernel_rfl⟩
theorem xZbq (N : Nat) : xZ6K.Ok prog N := xZeu.give tb_ok hm N N trivial fun a r s h => by
  exact s.main [] trivial (.trans (by kernel_rfl) h)
noncomputable def xZ7H : Fn xZ36 := ⟨f91, [], ⟨[], [], sbf, bof⟩, [xZ2X, xZV, xZ6K, xZZ], [false], none, 1, 1, fun _ _ => true, none⟩
theorem xZ7C : xZ7H.Ok prog := ⟨Is.of (by kernel_rfl) (by kernel_rfl), by kernel_rfl, xZc sb_ok bo_ok, trivial, trivial, fun _ => by kernel_rfl⟩
theorem xZ7v (N : Nat) : xZ36.Ok prog N := xZ7C.give tb_ok hm N N ⟨xZ7U N, xZ1O N, xZbq N, xZ1Z N, trivial⟩ fun a r s h => by
  have l0 := s.loop 0 xZ1C (xZ3T N) N fun next0 h0 => by
    exact fun c v => s.seg 0 xZ1C [(0, .of xZ1C next0)] ⟨h0, trivial⟩ (by kernel_rfl) (by kernel_rfl)
  exact s.main [(0, .of xZ1C (xZ6f N))] ⟨l0, trivial⟩ (.trans (by kernel_rfl) h)
noncomputable def xZ8P : Fn xZ3j := ⟨f118, [(148, .ib)], ⟨[], [], sbf, bof⟩, [], [true], none, 0, 0, fun _ _ => true, none⟩
theorem xZ8Q : xZ8P.Ok prog := ⟨Is.of (by kernel_rfl) (by kernel_rfl), by kernel_rfl, xZc sb_ok bo_ok, trivial, ⟨ExtIs.mk' f148 (by kernel_rfl) (by kernel_rfl) (by kernel_rfl) (by kernel_rfl) (by kernel_rfl), trivial⟩, fun _ => by kernel_rfl⟩
theorem xZ8W (N : Nat) : xZ3j.Ok prog N := xZ8Q.give tb_ok hm N N trivial fun a r s h => by
  exact s.main [] trivial (.trans (by kernel_rfl) h)
noncomputable def xZal : Fn xZ2H := ⟨f88, [], ⟨[], [], sbf, bof⟩, [xZ3j], [true], none, 0, 0, fun _ _ => true, none⟩
theorem xZaF : xZal.Ok prog := ⟨Is.of (by kernel_rfl) (by kernel_rfl), by kernel_rfl, xZc sb_ok bo_ok, trivial, trivial, fun _ => by kernel_rfl⟩
theorem xZ4y (N : Nat) : xZ2H.Ok prog N := xZaF.give tb_ok hm N N ⟨xZ8W N, trivial⟩ fun a r s h => by
  exact s.main [] trivial (.trans (by kernel_rfl) h)
noncomputable def xZfM : Fn xZ8j := ⟨f123, [], ⟨[], [], sbf, bof⟩, [xZ2H], [true], none, 0, 0, fun _ _ => true, none⟩
theorem xZfO : xZfM.Ok prog := ⟨Is.of (by kernel_rfl) (by kernel_rfl), by kernel_rfl, xZc sb_ok bo_ok, trivial, trivial, fun _ => by kernel_rfl⟩
theorem xZcg (N : Nat) : xZ8j.Ok prog N := xZfO.give tb_ok hm N N ⟨xZ4y N, trivial⟩ fun a r s h => by
  exact s.main [] trivial (.trans (by kernel_rfl) h)
noncomputable def xZjq : Fn xZdf := ⟨f149, [(163, .fb)], ⟨[], [], sbf, bof⟩, [], [true], none, 0, 0, fun _ _ => true, none⟩
theorem xZjR : xZjq.Ok prog := ⟨Is.of (by kernel_rfl) (by kernel_rfl), by kernel_rfl, xZc sb_ok bo_ok, trivial, ⟨ExtIs.mk' f163 (by kernel_rfl) (by kernel_rfl) (by kernel_rfl) (by kernel_rfl) (by kernel_rfl), trivial⟩, fun _ => by kernel_rfl⟩
theorem xZkn (N : Nat) : xZdf.Ok prog N := xZjR.give tb_ok hm N N trivial fun a r s h => by
  exact s.main [] trivial (.trans (by kernel_rfl) h)
noncomputable def xZg1 : Fn xZ5H := ⟨f124, [], ⟨[], [], sbf, bof⟩, [xZdf], [true], none, 0, 0, fun _ _ => true, none⟩
theorem xZfY : xZg1.Ok prog := ⟨Is.of (by kernel_rfl) (by kernel_rfl), by kernel_rfl, xZc sb_ok bo_ok, trivial, trivial, fun _ => by kernel_rfl⟩
theorem xZ9H (N : Nat) : xZ5H.Ok prog N := xZfY.give tb_ok hm N N ⟨xZkn N, trivial⟩ fun a r s h => by
  exact s.main [] trivial (.trans (by kernel_rfl) h)
noncomputable def xZdO : Fn xZ8c := ⟨f125, [], ⟨[], [], sbf, bof⟩, [xZ5H], [true], none, 0, 0, fun _ _ => true, none⟩
theorem xZdU : xZdO.Ok prog := ⟨Is.of (by kernel_rfl) (by kernel_rfl), by kernel_rfl, xZc sb_ok bo_ok, trivial, trivial, fun _ => by kernel_rfl⟩
theorem xZdn (N : Nat) : xZ8c.Ok prog N := xZdU.give tb_ok hm N N ⟨xZ9H N, trivial⟩ fun a r s h => by
  exact s.main [] trivial (.trans (by kernel_rfl) h)
noncomputable def xZ7P : Fn xZ31 := ⟨f92, [], ⟨[], [], sbf, bof⟩, [xZV, xZ8j, xZ5H, xZ8c, xZZ], [false], none, 1, 1, fun _ _ => true, none⟩
theorem xZ7Q : xZ7P.Ok prog := ⟨Is.of (by kernel_rfl) (by kernel_rfl), by kernel_rfl, xZc sb_ok bo_ok, trivial, trivial, fun _ => by kernel_rfl⟩
theorem xZ7V (N : Nat) : xZ31.Ok prog N := xZ7Q.give tb_ok hm N N ⟨xZ1O N, xZcg N, xZ9H N, xZdn N, xZ1Z N, trivial⟩ fun a r s h => by
  have l0 := s.loop 0 xZ1E (xZ3K N) N fun next0 h0 => by
    exact fun c v => s.seg 0 xZ1E [(0, .of xZ1E next0)] ⟨h0, trivial⟩ (by kernel_rfl) (by kernel_rfl)
  exact s.main [(0, .of xZ1E (xZ68 N))] ⟨l0, trivial⟩ (.trans (by kernel_rfl) h)
end
end
section
open Go.Proofs.Tryz
set_option maxRecDepth 1000000
noncomputable section
noncomputable def xZ6X : Fn xZ2L := ⟨f126, [], ⟨[], [], sbf, bof⟩, [xZ8j], [true, true], none, 1, 1, fun _ _ => true, none⟩
theorem xZ6N : xZ6X.Ok prog := ⟨Is.of (by kernel_rfl) (by kernel_rfl), by kernel_rfl, xZc sb_ok bo_ok, trivial, trivial, fun _ => by kernel_rfl⟩
theorem xZ6U (N : Nat) : xZ2L.Ok prog N := xZ6N.give tb_ok hm N N ⟨xZcg N, trivial⟩ fun a r s h => by
  exact s.main [] trivial (.trans (by kernel_rfl) h)
noncomputable def xZdX : Fn xZ8u := ⟨f127, [], ⟨[], [], sbf, bof⟩, [], [true], none, 0, 0, fun _ _ => true, none⟩
theorem xZdo : xZdX.Ok prog := ⟨Is.of (by kernel_rfl) (by kernel_rfl), by kernel_rfl, xZc sb_ok bo_ok, trivial, trivial, fun _ => by kernel_rfl⟩
theorem xZdR (N : Nat) : xZ8u.Ok prog N := xZdo.give tb_ok hm N N trivial fun a r s h => by
  exact s.main [] trivial (.trans (by kernel_rfl) h)
noncomputable def xZ7F : Fn xZ2Y := ⟨f93, [], ⟨[(52, 2), (61, 2), (86, 2)], [], sbf, bof⟩, [xZ5D, xZ2L, xZV, xZ8u, xZZ], [false], none, 1, 1, fun _ _ => true, none⟩
theorem xZ7S : xZ7F.Ok prog := ⟨Is.of (by kernel_rfl) (by kernel_rfl), by kernel_rfl, xZc sb_ok bo_ok, trivial, trivial, fun _ => by kernel_rfl⟩
theorem xZ7D (N : Nat) : xZ2Y.Ok prog N := xZ7S.give tb_ok hm N N ⟨xZ7t N, xZ6U N, xZ1O N, xZdR N, xZ1Z N, trivial⟩ fun a r s h => by
  have l0 := s.loop 0 xZ1F (xZ3Q N) N fun next0 h0 => by
    exact fun c v => s.seg 0 xZ1F [(0, .of xZ1F next0)] ⟨h0, trivial⟩ (by kernel_rfl) (by kernel_rfl)
  exact s.main [(0, .of xZ1F (xZ65 N))] ⟨l0, trivial⟩ (.trans (by kernel_rfl) h)
noncomputable def xZ8Z : Fn xZ3k := ⟨f94, [], ⟨[], [], sbf, bof⟩, [xZ2H, xZZ], [false], none, 1, 1, fun _ _ => true, none⟩
theorem xZ8T : xZ8Z.Ok prog := ⟨Is.of (by kernel_rfl) (by kernel_rfl), by kernel_rfl, xZc sb_ok bo_ok, trivial, trivial, fun _ => by kernel_rfl⟩
theorem xZ8O (N : Nat) : xZ3k.Ok prog N := xZ8T.give tb_ok hm N N ⟨xZ4y N, xZ1Z N, trivial⟩ fun a r s h => by
  exact s.main [] trivial (.trans (by kernel_rfl) h)
noncomputable def xZ83 : Fn xZ38 := ⟨f51, [], ⟨[], [], sbf, bof⟩, [xZ9s, xZV, xZ3h, xZ7K, xZ36, xZ31, xZ2Y, xZ3k, xZ2H], [false], none, 1, 1, fun _ _ => true, none⟩
theorem xZ8d : xZ83.Ok prog := ⟨Is.of (by kernel_rfl) (by kernel_rfl), by kernel_rfl, xZc sb_ok bo_ok, trivial, trivial, fun _ => by kernel_rfl⟩
theorem xZ8g (N : Nat) : xZ38.Ok prog N := xZ8d.give tb_ok hm N N ⟨xZd4 N, xZ1O N, xZ8R N, xZaR N, xZ7v N, xZ7V N, xZ7D N, xZ8O N, xZ4y N, trivial⟩ fun a r s h => by
  exact s.main [] trivial (.trans (by kernel_rfl) h)
noncomputable def xZi6 : Fn xZbW := ⟨f21, [], ⟨[], [], sbf, bof⟩, [xZ5D, xZ38], [true, false], none, 0, 0, fun _ _ => true, none⟩
theorem xZiy : xZi6.Ok prog := ⟨Is.of (by kernel_rfl) (by kernel_rfl), by kernel_rfl, xZc sb_ok bo_ok, trivial, trivial, fun _ => by kernel_rfl⟩
theorem xZir (N : Nat) : xZbW.Ok prog N := xZiy.give tb_ok hm N N ⟨xZ7t N, xZ8g N, trivial⟩ fun a r s h => by
  have l0 := s.loop 0 xZ89 (xZbZ N) N fun next0 h0 => by
    exact fun c v => s.seg 0 xZ89 [(0, .of xZ89 next0)] ⟨h0, trivial⟩ (by kernel_rfl) (by kernel_rfl)
  exact s.main [(0, .of xZ89 (xZfQ N))] ⟨l0, trivial⟩ (.trans (by kernel_rfl) h)
noncomputable def xZ7s : Fn xZD := ⟨f97, [], ⟨[], [], sbf, bof⟩, [], [true], none, 1, 0, fun _ _ => true, none⟩
theorem xZ77 : xZ7s.Ok prog := ⟨Is.of (by kernel_rfl) (by kernel_rfl), by kernel_rfl, xZc sb_ok bo_ok, trivial, trivial, fun _ => by kernel_rfl⟩
theorem xZ17 (N : Nat) : xZD.Ok prog N := xZ77.give tb_ok hm N N trivial fun a r s h => by
  exact s.main [] trivial (.trans (by kernel_rfl) h)
noncomputable def xZ7W : Fn xZl := ⟨f56, [], ⟨[], [], sbf, bof⟩, [xZD], [true], none, 1, 0, fun _ _ => true, none⟩
theorem xZ7z : xZ7W.Ok prog := ⟨Is.of (by kernel_rfl) (by kernel_rfl), by kernel_rfl, xZc sb_ok bo_ok, trivial, trivial, fun _ => by kernel_rfl⟩
theorem xZr (N : Nat) : xZl.Ok prog N := xZ7z.give tb_ok hm N N ⟨xZ17 N, trivial⟩ fun a r s h => by
  exact s.main [] trivial (.trans (by kernel_rfl) h)
noncomputable def xZck : Fn xZ4I := ⟨f98, [], ⟨[], [], sbf, bof⟩, [], [], none, 0, 0, fun _ _ => true, none⟩
theorem xZch : xZck.Ok prog := ⟨Is.of (by kernel_rfl) (by kernel_rfl), by kernel_rfl, xZc sb_ok bo_ok, trivial, trivial, fun _ => by kernel_rfl⟩
theorem xZ99 (N : Nat) : xZ4I.Ok prog N := xZch.give tb_ok hm N N trivial fun a r s h => by
  exact s.main [] trivial (.trans (by kernel_rfl) h)
noncomputable def xZc6 : Fn xZ4H := ⟨f98, [], ⟨[], [], sbf, bof⟩, [], [], none, 0, 0, fun _ _ => true, none⟩
theorem xZc8 : xZc6.Ok prog := ⟨Is.of (by kernel_rfl) (by kernel_rfl), by kernel_rfl, xZc sb_ok bo_ok, trivial, trivial, fun _ => by kernel_rfl⟩
theorem xZ9d (N : Nat) : xZ4H.Ok prog N := xZc8.give tb_ok hm N N trivial fun a r s h => by
  exact s.main [] trivial (.trans (by kernel_rfl) h)
noncomputable def xZ7g : Fn xZt := ⟨f59, [], ⟨[], [], sbf, bof⟩, [xZ5D, xZ4I, xZ4H], [], none, 1, 0, fun _ _ => true, none⟩
theorem xZ7f : xZ7g.Ok prog := ⟨Is.of (by kernel_rfl) (by kernel_rfl), by kernel_rfl, xZc sb_ok bo_ok, trivial, trivial, fun _ => by kernel_rfl⟩
theorem xZR (N : Nat) : xZt.Ok prog N := xZ7f.give tb_ok hm N N ⟨xZ7t N, xZ99 N, xZ9d N, trivial⟩ fun a r s h => by
  exact s.main [] trivial (.trans (by kernel_rfl) h)
noncomputable def xZ6Y : Fn xZ1U := ⟨f57, [], ⟨[], [], sbf, bof⟩, [xZt], [true], none, 1, 0, fun _ _ => true, none⟩
theorem xZ7e : xZ6Y.Ok prog := ⟨Is.of (by kernel_rfl) (by kernel_rfl), by kernel_rfl, xZc sb_ok bo_ok, trivial, trivial, fun _ => by kernel_rfl⟩
theorem xZ41 (N : Nat) : xZ1U.Ok prog N := xZ7e.give tb_ok hm N N ⟨xZR N, trivial⟩ fun a r s h => by
  exact s.main [] trivial (.trans (by kernel_rfl) h)
noncomputable def xZ7a : Fn xZS := ⟨f54, [], ⟨[], [], sbf, bof⟩, [xZl, xZt], [], none, 1, 0, fun _ _ => true, none⟩
theorem xZ6T : xZ7a.Ok prog := ⟨Is.of (by kernel_rfl) (by kernel_rfl), by kernel_rfl, xZc sb_ok bo_ok, trivial, trivial, fun _ => by kernel_rfl⟩
theorem xZ1R (N : Nat) : xZS.Ok prog N := xZ6T.give tb_ok hm N N ⟨xZr N, xZR N, trivial⟩ fun a r s h => by
  exact s.main [] trivial (.trans (by kernel_rfl) h)
noncomputable def xZ64 : Fn xZz := ⟨f188, [], ⟨[], [], sbf, bof⟩, [], [true], none, 1, 0, fun _ _ => true, none⟩
theorem xZ63 : xZ64.Ok prog := ⟨Is.of (by kernel_rfl) (by kernel_rfl), by kernel_rfl, xZc sb_ok bo_ok, trivial, trivial, fun _ => by kernel_rfl⟩
theorem xZ12 (N : Nat) : xZz.Ok prog N := xZ63.give tb_ok hm N N trivial fun a r s h => by
  exact s.main [] trivial (.trans (by kernel_rfl) h)
noncomputable def xZ5M : Fn xZ2f := ⟨f175, [], ⟨[], [], sbf, bof⟩, [], [true], none, 1, 0, fun _ _ => true, none⟩
theorem xZ5T : xZ5M.Ok prog := ⟨Is.of (by kernel_rfl) (by kernel_rfl), by kernel_rfl, xZc sb_ok bo_ok, trivial, trivial, fun _ => by kernel_rfl⟩
theorem xZ3w (N : Nat) : xZ2f.Ok prog N := xZ5T.give tb_ok hm N N trivial fun a r s h => by
  exact s.main [] trivial (.trans (by kernel_rfl) h)
noncomputable def xZ6g : Fn xZK := ⟨f195, [], ⟨[], [], sbf, bof⟩, [xZ2f], [], none, 1, 0, fun _ _ => true, none⟩
theorem xZ6r : xZ6g.Ok prog := ⟨Is.of (by kernel_rfl) (by kernel_rfl), by kernel_rfl, xZc sb_ok bo_ok, trivial, trivial, fun _ => by kernel_rfl⟩
theorem xZ1I (N : Nat) : xZK.Ok prog N := xZ6r.give tb_ok hm N N ⟨xZ3w N, trivial⟩ fun a r s h => by
  exact s.main [] trivial (.trans (by kernel_rfl) h)
noncomputable def xZ5j : Fn xZ2a := ⟨f194, [], ⟨[], [], sbf, bof⟩, [xZz, xZK], [], none, 1, 0, fun _ _ => true, none⟩
theorem xZ5B : xZ5j.Ok prog := ⟨Is.of (by kernel_rfl) (by kernel_rfl), by kernel_rfl, xZc sb_ok bo_ok, trivial, trivial, fun _ => by kernel_rfl⟩
theorem xZ5u (N : Nat) : xZ2a.Ok prog N := xZ5B.give tb_ok hm N N ⟨xZ12 N, xZ1I N, trivial⟩ fun a r s h => by
  exact s.main [] trivial (.trans (by kernel_rfl) h)
noncomputable def xZ7k : Fn xZE := ⟨f184, [], ⟨[], [], sbf, bof⟩, [xZz], [true], none, 1, 0, fun _ _ => true, none⟩
theorem xZ7i : xZ7k.Ok prog := ⟨Is.of (by kernel_rfl) (by kernel_rfl), by kernel_rfl, xZc sb_ok bo_ok, trivial, trivial, fun _ => by kernel_rfl⟩
theorem xZ1a (N : Nat) : xZE.Ok prog N := xZ7i.give tb_ok hm N N ⟨xZ12 N, trivial⟩ fun a r s h => by
  exact s.main [] trivial (.trans (by kernel_rfl) h)
end
end
section
open Go.Proofs.Tryz
set_option maxRecDepth 1000000
noncomputable section
noncomputable def xZ7G : Fn xZ35 := ⟨f189, [], ⟨[], [], sbf, bof⟩, [xZ3R], [true], none, 0, 0, fun _ _ => true, none⟩
theorem xZ7X : xZ7G.Ok prog := ⟨Is.of (by kernel_rfl) (by kernel_rfl), by kernel_rfl, xZc sb_ok bo_ok, trivial, trivial, fun _ => by kernel_rfl⟩
theorem xZ7I (N : Nat) : xZ35.Ok prog N := xZ7X.give tb_ok hm N N ⟨xZ6k N, trivial⟩ fun a r s h => by
  have l2 := s.loop 2 xZ1M (xZ3N N) N fun next2 h2 => by
    exact fun c v => s.seg 2 xZ1M [(2, .of xZ1M next2)] ⟨h2, trivial⟩ (by kernel_rfl) (by kernel_rfl)
  have l0 := s.loop 0 xZ1N (xZ3L N) N fun next0 h0 => by
    exact fun c v => s.seg 0 xZ1N [(0, .of xZ1N next0), (2, .of xZ1M (xZ6b N))] ⟨h0, l2, trivial⟩ (by kernel_rfl) (by kernel_rfl)
  exact s.main [(0, .of xZ1N (xZ66 N))] ⟨l0, trivial⟩ (.trans (by kernel_rfl) h)
noncomputable def xZct : Fn xZ2W := ⟨f185, [], ⟨[(6, 3)], [], sbf, bof⟩, [xZ35], [true], none, 0, 0, fun _ _ => true, none⟩
theorem xZc1 : xZct.Ok prog := ⟨Is.of (by kernel_rfl) (by kernel_rfl), by kernel_rfl, xZc sb_ok bo_ok, trivial, trivial, fun _ => by kernel_rfl⟩
theorem xZ4G (N : Nat) : xZ2W.Ok prog N := xZc1.give tb_ok hm N N ⟨xZ7I N, trivial⟩ fun a r s h => by
  exact s.main [] trivial (.trans (by kernel_rfl) h)
noncomputable def xZ6j : Fn xZ1G := ⟨f198, [], ⟨[], [], sbf, bof⟩, [xZz, xZK], [true], none, 1, 0, fun _ _ => true, none⟩
theorem xZ6a : xZ6j.Ok prog := ⟨Is.of (by kernel_rfl) (by kernel_rfl), by kernel_rfl, xZc sb_ok bo_ok, trivial, trivial, fun _ => by kernel_rfl⟩
theorem xZ3M (N : Nat) : xZ1G.Ok prog N := xZ6a.give tb_ok hm N N ⟨xZ12 N, xZ1I N, trivial⟩ fun a r s h => by
  exact s.main [] trivial (.trans (by kernel_rfl) h)
noncomputable def xZ6p : Fn xZ2x := ⟨f202, [], ⟨[(24, 3), (40, 3), (51, 3), (54, 3)], [], sbf, bof⟩, [xZE, xZz, xZK, xZ1G], [true], none, 1, 0, fun _ _ => true, none⟩
theorem xZ6s : xZ6p.Ok prog := ⟨Is.of (by kernel_rfl) (by kernel_rfl), by kernel_rfl, xZc sb_ok bo_ok, trivial, trivial, fun _ => by kernel_rfl⟩
theorem xZ69 (N : Nat) : xZ2x.Ok prog N := xZ6s.give tb_ok hm N N ⟨xZ1a N, xZ12 N, xZ1I N, xZ3M N, trivial⟩ fun a r s h => by
  exact s.main [] trivial (.trans (by kernel_rfl) h)
noncomputable def xZ7l : Fn xZ2M := ⟨f196, [], ⟨[(14, 4), (23, 4)], [], sbf, bof⟩, [xZ2x, xZE, xZ2W], [true], none, 1, 0, fun _ _ => true, none⟩
theorem xZ7q : xZ7l.Ok prog := ⟨Is.of (by kernel_rfl) (by kernel_rfl), by kernel_rfl, xZc sb_ok bo_ok, trivial, trivial, fun _ => by kernel_rfl⟩
theorem xZ7m (N : Nat) : xZ2M.Ok prog N := xZ7q.give tb_ok hm N N ⟨xZ69 N, xZ1a N, xZ4G N, trivial⟩ fun a r s h => by
  have l0 := s.loop 0 xZ1n (xZ3y N) N fun next0 h0 => by
    exact fun c v => s.seg 0 xZ1n [(0, .of xZ1n next0)] ⟨h0, trivial⟩ (by kernel_rfl) (by kernel_rfl)
  exact s.main [(0, .of xZ1n (xZ5S N))] ⟨l0, trivial⟩ (.trans (by kernel_rfl) h)
noncomputable def xZdc : Fn xZ4t := ⟨f143, [], ⟨[], [], sbf, bof⟩, [], [true], none, 0, 0, fun _ _ => true, none⟩
theorem xZe5 : xZdc.Ok prog := ⟨Is.of (by kernel_rfl) (by kernel_rfl), by kernel_rfl, xZc sb_ok bo_ok, trivial, trivial, fun _ => by kernel_rfl⟩
theorem xZ82 (N : Nat) : xZ4t.Ok prog N := xZe5.give tb_ok hm N N trivial fun a r s h => by
  exact s.main [] trivial (.trans (by kernel_rfl) h)
noncomputable def xZfG : Fn xZ9L := ⟨f197, [], ⟨[], [], sbf, bof⟩, [xZ4t], [true], none, 0, 0, fun _ _ => true, none⟩
theorem xZfT : xZfG.Ok prog := ⟨Is.of (by kernel_rfl) (by kernel_rfl), by kernel_rfl, xZc sb_ok bo_ok, trivial, trivial, fun _ => by kernel_rfl⟩
theorem xZfR (N : Nat) : xZ9L.Ok prog N := xZfT.give tb_ok hm N N ⟨xZ82 N, trivial⟩ fun a r s h => by
  have l0 := s.loop 0 xZ5k (xZav N) N fun next0 h0 => by
    exact fun c v => s.seg 0 xZ5k [(0, .of xZ5k next0)] ⟨h0, trivial⟩ (by kernel_rfl) (by kernel_rfl)
  exact s.main [(0, .of xZ5k (xZdA N))] ⟨l0, trivial⟩ (.trans (by kernel_rfl) h)
noncomputable def xZ80 : Fn xZ23 := ⟨f177, [], ⟨[(16, 4)], [], sbf, bof⟩, [xZ2N, xZE, xZ2W], [true], none, 1, 0, fun _ _ => true, none⟩
theorem xZ4k : xZ80.Ok prog := ⟨Is.of (by kernel_rfl) (by kernel_rfl), by kernel_rfl, xZc sb_ok bo_ok, trivial, trivial, fun _ => by kernel_rfl⟩
noncomputable def xZ6Z : Fn xZ2N := ⟨f183, [], ⟨[(16, 4)], [], sbf, bof⟩, [xZ1K, xZE, xZ2W], [true], none, 1, 0, fun _ _ => true, none⟩
theorem xZ3U : xZ6Z.Ok prog := ⟨Is.of (by kernel_rfl) (by kernel_rfl), by kernel_rfl, xZc sb_ok bo_ok, trivial, trivial, fun _ => by kernel_rfl⟩
noncomputable def xZ6h : Fn xZ1K := ⟨f187, [], ⟨[(18, 4), (49, 4)], [], sbf, bof⟩, [xZ2a, xZE, xZ1K, xZ2W, xZ23, xZK, xZ2M, xZz, xZ9L, xZ1G], [true], none, 1, 0, fun _ _ => true, none⟩
theorem xZ3S : xZ6h.Ok prog := ⟨Is.of (by kernel_rfl) (by kernel_rfl), by kernel_rfl, xZc sb_ok bo_ok, trivial, trivial, fun _ => by kernel_rfl⟩
theorem xZ42 : ∀ N, xZ23.Ok prog N ∧ xZ2N.Ok prog N ∧ xZ1K.Ok prog N
  | 0 => ⟨⟨xZ4k.is.enters, fun a r h => by (have h : none = some r := h; cases h)⟩, ⟨xZ3U.is.enters, fun a r h => by (have h : none = some r := h; cases h)⟩, ⟨xZ3S.is.enters, fun a r h => by (have h : none = some r := h; cases h)⟩⟩
  | N + 1 => by
    obtain ⟨h_predtext_parser_or_v927, h_predtext_parser_and_v927, h_predtext_parser_part_v927⟩ := xZ42 N
    refine ⟨?_, ?_, ?_⟩
    · exact xZ4k.give tb_ok hm N (N + 1) ⟨h_predtext_parser_and_v927, xZ1a N, xZ4G N, trivial⟩ fun a r s h => by
        have l0 := s.loop 0 xZ1H (xZ3I N) N fun next0 h0 => by
          exact fun c v => s.seg 0 xZ1H [(0, .of xZ1H next0)] ⟨h0, trivial⟩ (by kernel_rfl) (by kernel_rfl)
        exact s.main [(0, .of xZ1H (xZ6l N))] ⟨l0, trivial⟩ (.trans (by kernel_rfl) h)
    · exact xZ3U.give tb_ok hm N (N + 1) ⟨h_predtext_parser_part_v927, xZ1a N, xZ4G N, trivial⟩ fun a r s h => by
        have l0 := s.loop 0 xZ1s (xZ3x N) N fun next0 h0 => by
          exact fun c v => s.seg 0 xZ1s [(0, .of xZ1s next0)] ⟨h0, trivial⟩ (by kernel_rfl) (by kernel_rfl)
        exact s.main [(0, .of xZ1s (xZ5X N))] ⟨l0, trivial⟩ (.trans (by kernel_rfl) h)
    · exact xZ3S.give tb_ok hm N (N + 1) ⟨xZ5u N, xZ1a N, h_predtext_parser_part_v927, xZ4G N, h_predtext_parser_or_v927, xZ1I N, xZ7m N, xZ12 N, xZfR N, xZ3M N, trivial⟩ fun a r s h => by
        exact s.main [] trivial (.trans (by kernel_rfl) h)
theorem xZ7T (N : Nat) : xZ23.Ok prog N := (xZ42 N).1
noncomputable def xZaK : Fn xZ4V := ⟨f155, [], ⟨[], [], sbf, bof⟩, [], [true], none, 0, 0, fun _ _ => true, none⟩
theorem xZaQ : xZaK.Ok prog := ⟨Is.of (by kernel_rfl) (by kernel_rfl), by kernel_rfl, xZc sb_ok bo_ok, trivial, trivial, fun _ => by kernel_rfl⟩
theorem xZaN (N : Nat) : xZ4V.Ok prog N := xZaQ.give tb_ok hm N N trivial fun a r s h => by
  exact s.main [] trivial (.trans (by kernel_rfl) h)
noncomputable def xZcM : Fn xZ52 := ⟨f82, [], ⟨[], [], sbf, bof⟩, [], [true], none, 0, 0, fun _ _ => true, none⟩
theorem xZcA : xZcM.Ok prog := ⟨Is.of (by kernel_rfl) (by kernel_rfl), by kernel_rfl, xZc sb_ok bo_ok, trivial, trivial, fun _ => by kernel_rfl⟩
theorem xZ9D (N : Nat) : xZ52.Ok prog N := xZcA.give tb_ok hm N N trivial fun a r s h => by
  exact s.main [] trivial (.trans (by kernel_rfl) h)
noncomputable def xZf0 : Fn xZ9j := ⟨f84, [], ⟨[], [], sbf, bof⟩, [xZ52], [true], none, 0, 0, fun _ _ => true, none⟩
theorem xZek : xZf0.Ok prog := ⟨Is.of (by kernel_rfl) (by kernel_rfl), by kernel_rfl, xZc sb_ok bo_ok, trivial, trivial, fun _ => by kernel_rfl⟩
theorem xZez (N : Nat) : xZ9j.Ok prog N := xZek.give tb_ok hm N N ⟨xZ9D N, trivial⟩ fun a r s h => by
  exact s.main [] trivial (.trans (by kernel_rfl) h)
noncomputable def xZem : Fn xZ58 := ⟨f48, [], ⟨[], [], sbf, bof⟩, [xZ52, xZ4a, xZ9j], [true], none, 0, 0, fun _ _ => true, none⟩
theorem xZeG : xZem.Ok prog := ⟨Is.of (by kernel_rfl) (by kernel_rfl), by kernel_rfl, xZc sb_ok bo_ok, trivial, trivial, fun _ => by kernel_rfl⟩
theorem xZ9g (N : Nat) : xZ58.Ok prog N := xZeG.give tb_ok hm N N ⟨xZ9D N, xZ8H N, xZez N, trivial⟩ fun a r s h => by
  have l0 := s.loop 0 xZ51 (xZ9G N) N fun next0 h0 => by
    exact fun c v => s.seg 0 xZ51 [(0, .of xZ51 next0)] ⟨h0, trivial⟩ (by kernel_rfl) (by kernel_rfl)
  exact s.main [(0, .of xZ51 (xZcP N))] ⟨l0, trivial⟩ (.trans (by kernel_rfl) h)
end
end
section
open Go.Proofs.Tryz
set_option maxRecDepth 1000000
noncomputable section
noncomputable def xZg4 : Fn xZ9X := ⟨f144, [], ⟨[], [], sbf, bof⟩, [], [false], none, 0, 0, fun _ _ => true, none⟩
theorem xZfk : xZg4.Ok prog := ⟨Is.of (by kernel_rfl) (by kernel_rfl), by kernel_rfl, xZc sb_ok bo_ok, trivial, trivial, fun _ => by kernel_rfl⟩
theorem xZg8 (N : Nat) : xZ9X.Ok prog N := xZfk.give tb_ok hm N N trivial fun a r s h => by
  exact s.main [] trivial (.trans (by kernel_rfl) h)
noncomputable def xZ9W : Fn xZ4i := ⟨f237, [], ⟨[], [], sbf, bof⟩, [], [true], none, 0, 0, fun _ _ => true, none⟩
theorem xZ9S : xZ9W.Ok prog := ⟨Is.of (by kernel_rfl) (by kernel_rfl), by kernel_rfl, xZc sb_ok bo_ok, trivial, trivial, fun _ => by kernel_rfl⟩
theorem xZ9I (N : Nat) : xZ4i.Ok prog N := xZ9S.give tb_ok hm N N trivial fun a r s h => by
  exact s.main [] trivial (.trans (by kernel_rfl) h)
noncomputable def xZb4 : Fn xZ4S := ⟨f238, [], ⟨[], [], sbf, bof⟩, [], [true], none, 0, 0, fun _ _ => true, none⟩
theorem xZaV : xZb4.Ok prog := ⟨Is.of (by kernel_rfl) (by kernel_rfl), by kernel_rfl, xZc sb_ok bo_ok, trivial, trivial, fun _ => by kernel_rfl⟩
theorem xZb1 (N : Nat) : xZ4S.Ok prog N := xZaV.give tb_ok hm N N trivial fun a r s h => by
  exact s.main [] trivial (.trans (by kernel_rfl) h)
noncomputable def xZ9T : Fn xZ4c := ⟨f239, [], ⟨[], [], sbf, bof⟩, [], [true], none, 0, 0, fun _ _ => true, none⟩
theorem xZ9M : xZ9T.Ok prog := ⟨Is.of (by kernel_rfl) (by kernel_rfl), by kernel_rfl, xZc sb_ok bo_ok, trivial, trivial, fun _ => by kernel_rfl⟩
theorem xZ9Y (N : Nat) : xZ4c.Ok prog N := xZ9M.give tb_ok hm N N trivial fun a r s h => by
  exact s.main [] trivial (.trans (by kernel_rfl) h)
noncomputable def xZaD : Fn xZ4J := ⟨f240, [], ⟨[], [], sbf, bof⟩, [], [true], none, 0, 0, fun _ _ => true, none⟩
theorem xZaq : xZaD.Ok prog := ⟨Is.of (by kernel_rfl) (by kernel_rfl), by kernel_rfl, xZc sb_ok bo_ok, trivial, trivial, fun _ => by kernel_rfl⟩
theorem xZaw (N : Nat) : xZ4J.Ok prog N := xZaq.give tb_ok hm N N trivial fun a r s h => by
  exact s.main [] trivial (.trans (by kernel_rfl) h)
noncomputable def xZf1 : Fn xZ6J := ⟨f112, [], ⟨[], [], sbf, bof⟩, [xZ9X, xZ4i, xZ4S, xZ5H, xZ4c, xZ4J], [true], none, 0, 0, fun _ _ => true, none⟩
theorem xZeh : xZf1.Ok prog := ⟨Is.of (by kernel_rfl) (by kernel_rfl), by kernel_rfl, xZc sb_ok bo_ok, trivial, trivial, fun _ => by kernel_rfl⟩
theorem xZbj (N : Nat) : xZ6J.Ok prog N := xZeh.give tb_ok hm N N ⟨xZg8 N, xZ9I N, xZb1 N, xZ9H N, xZ9Y N, xZaw N, trivial⟩ fun a r s h => by
  exact s.main [] trivial (.trans (by kernel_rfl) h)
noncomputable def xZbK : Fn xZ5b := ⟨f157, [], ⟨[], [], sbf, bof⟩, [xZ4t, xZ58, xZ6J], [true], none, 0, 0, fun _ _ => true, none⟩
theorem xZbF : xZbK.Ok prog := ⟨Is.of (by kernel_rfl) (by kernel_rfl), by kernel_rfl, xZc sb_ok bo_ok, trivial, trivial, fun _ => by kernel_rfl⟩
theorem xZbE (N : Nat) : xZ5b.Ok prog N := xZbF.give tb_ok hm N N ⟨xZ82 N, xZ9g N, xZbj N, trivial⟩ fun a r s h => by
  exact s.main [] trivial (.trans (by kernel_rfl) h)
noncomputable def xZdZ : Fn xZ88 := ⟨f156, [], ⟨[], [], sbf, bof⟩, [xZ5b], [true], none, 0, 0, fun _ _ => true, none⟩
theorem xZdr : xZdZ.Ok prog := ⟨Is.of (by kernel_rfl) (by kernel_rfl), by kernel_rfl, xZc sb_ok bo_ok, trivial, trivial, fun _ => by kernel_rfl⟩
theorem xZdv (N : Nat) : xZ88.Ok prog N := xZdr.give tb_ok hm N N ⟨xZbE N, trivial⟩ fun a r s h => by
  exact s.main [] trivial (.trans (by kernel_rfl) h)
noncomputable def xZdB : Fn xZ86 := ⟨f156, [], ⟨[], [], sbf, bof⟩, [xZ92], [true], none, 0, 0, fun _ _ => true, none⟩
theorem xZe6 : xZdB.Ok prog := ⟨Is.of (by kernel_rfl) (by kernel_rfl), by kernel_rfl, xZc sb_ok bo_ok, trivial, trivial, fun _ => by kernel_rfl⟩
theorem xZdg (N : Nat) : xZ86.Ok prog N := xZe6.give tb_ok hm N N ⟨xZc7 N, trivial⟩ fun a r s h => by
  exact s.main [] trivial (.trans (by kernel_rfl) h)
noncomputable def xZhp : Fn xZaU := ⟨f159, [], ⟨[], [], sbf, bof⟩, [], [true], none, 0, 0, fun _ _ => true, none⟩
theorem xZhh : xZhp.Ok prog := ⟨Is.of (by kernel_rfl) (by kernel_rfl), by kernel_rfl, xZc sb_ok bo_ok, trivial, trivial, fun _ => by kernel_rfl⟩
theorem xZhf (N : Nat) : xZaU.Ok prog N := xZhh.give tb_ok hm N N trivial fun a r s h => by
  exact s.main [] trivial (.trans (by kernel_rfl) h)
noncomputable def xZcN : Fn xZ6W := ⟨f160, [], ⟨[], [], sbf, bof⟩, [], [true], none, 0, 0, fun _ _ => true, none⟩
theorem xZcE : xZcN.Ok prog := ⟨Is.of (by kernel_rfl) (by kernel_rfl), by kernel_rfl, xZc sb_ok bo_ok, trivial, trivial, fun _ => by kernel_rfl⟩
theorem xZcL (N : Nat) : xZ6W.Ok prog N := xZcE.give tb_ok hm N N trivial fun a r s h => by
  exact s.main [] trivial (.trans (by kernel_rfl) h)
noncomputable def xZ8v : Fn xZ1x := ⟨f140, [], ⟨[], [], sbf, bof⟩, [xZ4V, xZ88, xZ86, xZaU, xZ6W, xZ1x], [true], none, 1, 0, fun _ _ => true, none⟩
theorem xZ4r : xZ8v.Ok prog := ⟨Is.of (by kernel_rfl) (by kernel_rfl), by kernel_rfl, xZc sb_ok bo_ok, trivial, trivial, fun _ => by kernel_rfl⟩
theorem xZ4o : ∀ N, xZ1x.Ok prog N
  | 0 => ⟨xZ4r.is.enters, fun a r h => by (have h : none = some r := h; cases h)⟩
  | N + 1 => by
    obtain h_pred_checker_tree_v739 := xZ4o N
    · exact xZ4r.give tb_ok hm N (N + 1) ⟨xZaN N, xZdv N, xZdg N, xZhf N, xZcL N, h_pred_checker_tree_v739, trivial⟩ fun a r s h => by
        have l0 := s.loop 0 xZ1X (xZ40 N) N fun next0 h0 => by
          exact fun c v => s.seg 0 xZ1X [(0, .of xZ1X next0)] ⟨h0, trivial⟩ (by kernel_rfl) (by kernel_rfl)
        exact s.main [(0, .of xZ1X (xZ6O N))] ⟨l0, trivial⟩ (.trans (by kernel_rfl) h)
theorem xZ8e (N : Nat) : xZ1x.Ok prog N := (xZ4o N)
noncomputable def xZfK : Fn xZ8o := ⟨f110, [], ⟨[], [], sbf, bof⟩, [xZ1x], [true], none, 0, 0, fun _ _ => true, none⟩
theorem xZgi : xZfK.Ok prog := ⟨Is.of (by kernel_rfl) (by kernel_rfl), by kernel_rfl, xZc sb_ok bo_ok, trivial, trivial, fun _ => by kernel_rfl⟩
theorem xZa3 (N : Nat) : xZ8o.Ok prog N := xZgi.give tb_ok hm N N ⟨xZ8e N, trivial⟩ fun a r s h => by
  exact s.main [] trivial (.trans (by kernel_rfl) h)
end
end
end Go.Proofs.YtahklhniofiofaaGreatDoor.K
