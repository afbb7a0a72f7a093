/- lex.whole, walked. No premise beyond what each theorem says. -/
import Derived.Test.YtahklhniofiofaaGreatDoorBG2
import Derived.Shelf.Strings.BuilderK
import Derived.Test.YtahklhniofiofaaGreatDoorBA3
import Derived.WalkKit
import Derived.BigCall
import Derived.Laws.BytesString
import Derived.Laws.IdiomStrings
import Derived.Lib.SmallJoins
import Derived.Laws.Bits64b
import Derived.Lib.UnsafeStr
import Derived.Lib.OthersKept
import Derived.Deep.RegionHeld3
import Derived.LaidEql
import Derived.Stop.Asserts
import Derived.RowKitTokens
set_option linter.all false
set_option linter.unusedSimpArgs false
set_option linter.unusedVariables false
namespace Go.Proofs.YtahklhniofiofaaGreatDoor.B
open Go
section
open Go Go.Shelf Go.RowKit Go.Proofs.Tryz
set_option maxHeartbeats 1000000
set_option maxRecDepth 1000000
def bren : Go.Shelf.Ren := ⟨fun | 166 => 146 | 167 => 145 | 169 => 147 | 240 => 162 | 276 => 174 | n => n, fun | 0 => 0 | 3 => 3 | 4 => 4 | 5 => 5 | 9 => 9 | 20 => 20 | 31 => 201 | 37 => 188 | 70 => 216 | 72 => 218 | 75 => 27 | 76 => 220 | 80 => 94 | 127 => 234 | 164 => 129 | n => n, fun n => n⟩
theorem lays166 : Go.Proofs.Lays.n166 Tryz.prog bren := {
  mixed := by kernel_rfl
  f166 := Tryz.func146.trans (congrArg some (by kernel_rfl))
  f240 := Tryz.func162.trans (congrArg some (by kernel_rfl))
  f276 := Tryz.func174.trans (congrArg some (by kernel_rfl))
  t0 := Tryz.underlying0
  a0 := Tryz.isAgg0
  z0 := Tryz.sizeOf0
  v0 := Tryz.zeroValue0
  t3 := Tryz.underlying3
  a3 := Tryz.isAgg3
  z3 := Tryz.sizeOf3
  v3 := Tryz.zeroValue3
  t4 := Tryz.underlying4
  a4 := Tryz.isAgg4
  z4 := Tryz.sizeOf4
  v4 := Tryz.zeroValue4
  t9 := Tryz.underlying9
  a9 := Tryz.isAgg9
  z9 := Tryz.sizeOf9
  v9 := Tryz.zeroValue9
  t20 := Tryz.underlying20
  a20 := Tryz.isAgg20
  z20 := Tryz.sizeOf20
  v20 := Tryz.zeroValue20
  t37 := Tryz.underlying188
  a37 := Tryz.isAgg188
  z37 := Tryz.sizeOf188
  v37 := Tryz.zeroValue188
  t70 := Tryz.underlying216
  a70 := Tryz.isAgg216
  z70 := Tryz.sizeOf216
  v70 := Tryz.zeroValue216
  t72 := Tryz.underlying218
  a72 := Tryz.isAgg218
  z72 := Tryz.sizeOf218
  v72 := Tryz.zeroValue218
  t75 := Tryz.underlying27
  a75 := Tryz.isAgg27
  z75 := Tryz.sizeOf27
  v75 := Tryz.zeroValue27
  t164 := Tryz.underlying129
  a164 := Tryz.isAgg129
  z164 := Tryz.sizeOf129
  v164 := Tryz.zeroValue129 }
theorem lays167 : Go.Proofs.Lays.n167 Tryz.prog bren := {
  mixed := by kernel_rfl
  f167 := Tryz.func145.trans (congrArg some (by kernel_rfl))
  f240 := Tryz.func162.trans (congrArg some (by kernel_rfl))
  f276 := Tryz.func174.trans (congrArg some (by kernel_rfl))
  t0 := Tryz.underlying0
  a0 := Tryz.isAgg0
  z0 := Tryz.sizeOf0
  v0 := Tryz.zeroValue0
  t4 := Tryz.underlying4
  a4 := Tryz.isAgg4
  z4 := Tryz.sizeOf4
  v4 := Tryz.zeroValue4
  t5 := Tryz.underlying5
  a5 := Tryz.isAgg5
  z5 := Tryz.sizeOf5
  v5 := Tryz.zeroValue5
  t9 := Tryz.underlying9
  a9 := Tryz.isAgg9
  z9 := Tryz.sizeOf9
  v9 := Tryz.zeroValue9
  t20 := Tryz.underlying20
  a20 := Tryz.isAgg20
  z20 := Tryz.sizeOf20
  v20 := Tryz.zeroValue20
  t37 := Tryz.underlying188
  a37 := Tryz.isAgg188
  z37 := Tryz.sizeOf188
  v37 := Tryz.zeroValue188
  t70 := Tryz.underlying216
  a70 := Tryz.isAgg216
  z70 := Tryz.sizeOf216
  v70 := Tryz.zeroValue216
  t72 := Tryz.underlying218
  a72 := Tryz.isAgg218
  z72 := Tryz.sizeOf218
  v72 := Tryz.zeroValue218
  t75 := Tryz.underlying27
  a75 := Tryz.isAgg27
  z75 := Tryz.sizeOf27
  v75 := Tryz.zeroValue27
  t164 := Tryz.underlying129
  a164 := Tryz.isAgg129
  z164 := Tryz.sizeOf129
  v164 := Tryz.zeroValue129 }
theorem lays169 : Go.Proofs.Lays.n169 Tryz.prog bren := {
  mixed := by kernel_rfl
  f169 := Tryz.func147.trans (congrArg some (by kernel_rfl))
  t0 := Tryz.underlying0
  a0 := Tryz.isAgg0
  z0 := Tryz.sizeOf0
  v0 := Tryz.zeroValue0
  t3 := Tryz.underlying3
  a3 := Tryz.isAgg3
  z3 := Tryz.sizeOf3
  v3 := Tryz.zeroValue3
  t9 := Tryz.underlying9
  a9 := Tryz.isAgg9
  z9 := Tryz.sizeOf9
  v9 := Tryz.zeroValue9
  t37 := Tryz.underlying188
  a37 := Tryz.isAgg188
  z37 := Tryz.sizeOf188
  v37 := Tryz.zeroValue188
  t70 := Tryz.underlying216
  a70 := Tryz.isAgg216
  z70 := Tryz.sizeOf216
  v70 := Tryz.zeroValue216
  t72 := Tryz.underlying218
  a72 := Tryz.isAgg218
  z72 := Tryz.sizeOf218
  v72 := Tryz.zeroValue218
  t127 := Tryz.underlying234
  a127 := Tryz.isAgg234
  z127 := Tryz.sizeOf234
  v127 := Tryz.zeroValue234 }
theorem bextra : Builder.Extra Tryz.prog bren := {
  sizeBuilder := by kernel_rfl
  liesBuilder := by kernel_rfl
  t5 := Tryz.underlying5
  a5 := Tryz.isAgg5
  z5 := Tryz.sizeOf5
  v5 := Tryz.zeroValue5
  infoByte := by kernel_rfl
  cellsByte := by kernel_rfl
  sizeByte := by kernel_rfl
  neB5 := by decide }
theorem xZfO {α : Type} (x z : α) (r : List α) : ∀ j, (List.replicate (j + 1) z ++ r).set j x = List.replicate j z ++ x :: r
  | 0 => rfl
  | j + 1 => by
    have := xZfO x z r j
    simp only [List.replicate_succ, List.cons_append, List.set_cons_succ] at this ⊢
    rw [this]
theorem xZnd (q : Nat) : 48 + UInt8.ofNat (q % 10) = UInt8.ofNat (48 + q % 10) := by
  apply UInt8.toNat_inj.1
  simp [UInt8.toNat_add]
theorem xZiJ (n : Int) (h1 : -4611686018427387904 ≤ n) (h2 : n ≤ 4611686018427387904) (w : World) :
    Calls Tryz.prog 113 #[.int .i64 n] w fun e w' => e = .returned (.string (bs (whS n))) ∧ Below w.heap.size w w' := by
  have hm : max n (-n) = (n.natAbs : Int) := by omega
  have hm2 : n.natAbs < 10 ^ 19 := by omega
  obtain ⟨m, hmm⟩ : ∃ m, n.natAbs = m := ⟨_, rfl⟩
  rw [hmm] at hm hm2
  go_enter Tryz.func113, Tryz.ntmps113
  go_wp2
  have hin : n < 0 ↔ n < 0 := Iff.rfl
  go_loopw [4, 5] (fun i x wr => ∃ (j k q : Nat) (tail : List UInt8), j + k = 21 ∧ i = .int .i64 j ∧ x = .int .u64 (q : Int) ∧ wr.heap[w.heap.size]? = some (.cells (Lib.byteCells (List.replicate j 0 ++ tail)).toArray 214 (0, 0)) ∧ Below w.heap.size w wr ∧ tail.length = k ∧ dgF 20 m = dgF (20 - k) q ++ tail ∧ (k = 0 ∨ q ≠ 0) ∧ q < 10 ^ (19 - k) ∧ k ≤ 19) (fun i _ _ => (intOf i).toNat)
  case atStart =>
    refine ⟨21, 0, m, [], rfl, rfl, rfl, ?_, (Below.refl _ w).alloc (Nat.le_refl _) _, rfl, by simp, .inl rfl, hm2, by omega⟩
    rw [heap_alloc_new]
    rfl
  case round =>
    obtain ⟨j, k, q, tail, hjk, rfl, rfl, hh, hb, htl, hdg, hkq, hq, hk19⟩ := hrel
    have hsz := hb.size
    have hk18 : k ≤ 18 := by
      rcases hkq with h | h
      · omega
      · by_cases hk : k = 19
        · subst hk; simp at hq; omega
        · omega
    obtain ⟨p, rfl⟩ : ∃ p, j = p + 2 := ⟨j - 2, by omega⟩
    have hlen : (Lib.byteCells (List.replicate (p + 2) 0 ++ tail)).length = 21 := by rw [Lib.byteCells_length]; simp; omega
    have g1 : (0 : Int) ≤ ((p + 1 : Nat) : Int) := by omega
    have g2 : ((p + 1 : Nat) : Int) < 21 := by omega
    have g3 : p + 1 < 21 := by omega
    have g4 : (p : Int) + 1 < 21 := by omega
    have g5 : (p : Int) < 21 := by omega
    have g6 : p < 21 := by omega
    have g7 : p + 1 ≤ 21 := by omega
    have g8 : p ≤ 21 := by omega
    have c1 : ∃ v, wr.cell? ⟨w.heap.size, p + 1, none⟩ = some v := by
      rw [Lib.cell_of_heap hh]; exact ⟨(Lib.byteCells (List.replicate (p + 2) 0 ++ tail))[p + 1]'(by omega), by simp only [List.getElem?_toArray]; exact List.getElem?_eq_getElem _⟩
    obtain ⟨v0, c1⟩ := c1
    have c2 : wr.frozen? ⟨w.heap.size, p + 1, none⟩ = false := Lib.frozen_of_heap hh (p + 1)
    have hq64 : q < 18446744073709551616 := Nat.lt_of_lt_of_le hq (Nat.le_trans (Nat.pow_le_pow_right (by decide) (by omega : 19 - k ≤ 19)) (by decide))
    have hbl := fun v => Joins.block_setCell (i := p + 1) hh v
    have c3 : ∀ v, (wr.setCell ⟨w.heap.size, p + 1, none⟩ v).cell? ⟨w.heap.size, p, none⟩ = some (.int .u8 0) := fun v => by
      rw [Lib.cell_of_heap (hbl v), List.setIfInBounds_toArray, List.getElem?_toArray, List.getElem?_set_ne (by omega)]
      simp [Lib.byteCells, List.getElem?_append]
    have c4 : ∀ v, (wr.setCell ⟨w.heap.size, p + 1, none⟩ v).frozen? ⟨w.heap.size, p, none⟩ = false := fun v => Lib.frozen_of_heap (hbl v) p
    have hbl2 := fun v v' => Joins.block_setCell (i := p) (hbl v) v'
    have hd10 : q % 10 < 10 := Nat.mod_lt _ (by decide)
    have s1 : (0 : Int) ≤ (p : Int) + 2 - 1 := by omega
    have s2 : (p : Int) + 2 - 1 ≤ 21 := by omega
    have s3 : (0 : Int) ≤ (p : Int) + 2 - 1 - 1 := by omega
    have s4 : (p : Int) + 2 - 1 - 1 ≤ 21 := by omega
    have s5 : ((p : Int) + 2 - 1).toNat = p + 1 := by omega
    have s6 : ((p : Int) + 2 - 1 - 1).toNat = p := by omega
    have s7 : ¬ (21 = p + 1) := by omega
    have s8 : ¬ (21 = p) := by omega
    have r1 : ∀ W, (Instr.sliceAt 214 (.pointer (some ⟨w.heap.size, 0, none⟩)) (some (.int .i64 ((p : Int) + 2 - 1))) none none).run Tryz.prog W = .ok (.slice (some ⟨w.heap.size, p + 1, none⟩) (20 - p) (20 - p)) W := fun W => by
      rw [run_sliceAt_array_l (P := Tryz.prog) W 214 _ (by kernel_rfl) .i64 _ s1 (by exact s2), s5, show Tryz.prog.elem 214 = 5 from by kernel_rfl, Tryz.sizeOf5, show Tryz.prog.arrayLen 214 = 21 from by kernel_rfl]
      simp only [Result.andThen, slicedAt, if_neg s7, Addr.add, Nat.mul_one, Nat.zero_add, show 21 - (p + 1) = 20 - p from by omega, Nat.succ_ne_zero, if_false]
    have r2 : ∀ W, (Instr.sliceAt 214 (.pointer (some ⟨w.heap.size, 0, none⟩)) (some (.int .i64 ((p : Int) + 2 - 1 - 1))) none none).run Tryz.prog W = .ok (.slice (some ⟨w.heap.size, p, none⟩) (21 - p) (21 - p)) W := fun W => by
      rw [run_sliceAt_array_l (P := Tryz.prog) W 214 _ (by kernel_rfl) .i64 _ s3 (by exact s4), s6, show Tryz.prog.elem 214 = 5 from by kernel_rfl, Tryz.sizeOf5, show Tryz.prog.arrayLen 214 = 21 from by kernel_rfl]
      simp only [Result.andThen, slicedAt, if_neg s8, Addr.add, Nat.mul_one, Nat.zero_add]
      by_cases hp0 : p = 0
      · subst hp0; rfl
      · rw [if_neg hp0]
    obtain ⟨l1, hl1⟩ : ∃ l, l = UInt8.ofNat (48 + q % 10) :: tail := ⟨_, rfl⟩
    have hll : l1.length = 20 - p := by rw [hl1]; simp; omega
    have hsub : (48 + (q : Int) % 10) = ((UInt8.ofNat (48 + q % 10)).toNat : Int) := by rw [UInt8.toNat_ofNat', Nat.mod_eq_of_lt (by omega)]; omega
    have hw1 : (wr.setCell ⟨w.heap.size, p + 1, none⟩ (.int .u8 (48 + (q : Int) % 10))).heap[w.heap.size]? = some (.cells (Lib.byteCells (List.replicate (p + 1) 0 ++ l1)).toArray 214 (0, 0)) := by
      rw [hbl, hl1, ← xZfO (UInt8.ofNat (48 + q % 10)) 0 tail (p + 1), List.setIfInBounds_toArray, hsub]
      simp only [Lib.byteCells, List.map_set]
    have hw2 : ((wr.setCell ⟨w.heap.size, p + 1, none⟩ (.int .u8 (48 + (q : Int) % 10))).setCell ⟨w.heap.size, p, none⟩ (.int .u8 45)).heap[w.heap.size]? = some (.cells (Lib.byteCells (List.replicate p 0 ++ 45 :: l1)).toArray 214 (0, 0)) := by
      rw [Joins.block_setCell hw1, ← xZfO 45 0 l1 p, List.setIfInBounds_toArray]
      simp only [Lib.byteCells, List.map_set]
      rfl
    have hcv := fun (W : World) (o : Nat) (l : List UInt8) (cap : Nat) (hW : W.heap[w.heap.size]? = some (.cells (Lib.byteCells (List.replicate o 0 ++ l)).toArray 214 (0, 0))) => run_convert_bytes_back (P := Tryz.prog) W 188 9 5 ⟨w.heap.size, o, none⟩ cap l (by kernel_rfl) (by kernel_rfl) (by kernel_rfl) (fun i hi => by
        have ea : (⟨w.heap.size, o, none⟩ : Addr).add i = ⟨w.heap.size, o + i, none⟩ := by unfold Addr.add; split <;> simp [*]
        rw [ea, Lib.cell_of_heap hW, List.getElem?_toArray]
        simp [Lib.byteCells, List.getElem?_append_right, List.getElem?_eq_getElem hi])
    have cv1 := hcv _ (p + 1) l1 (20 - p) hw1
    have cv2 := hcv _ p (45 :: l1) (21 - p) hw2
    rw [hll] at cv1
    rw [show (45 :: l1).length = 21 - p by simp; omega] at cv2
    have hd2 : dgF 20 m = (if q / 10 = 0 then [] else dgF (19 - k) (q / 10)) ++ l1 := by
      rw [hdg, show 20 - k = (19 - k) + 1 by omega, dgF, hl1]; simp
    have hhi : (wr.setCell ⟨w.heap.size, p + 1, none⟩ (.int .u8 (48 + (q : Int) % 10))).heap[w.heap.size]? = some (.cells (Lib.byteCells (List.replicate (p + 1) 0 ++ l1)).toArray 214 (0, 0)) ∧ l1.length = k + 1 ∧ p + 1 + (k + 1) = 21 ∧ q < 10 ^ (19 - k) ∧ l1 = UInt8.ofNat (48 + q % 10) :: tail := ⟨hw1, by omega, by omega, hq, hl1⟩
    clear hjk hkq hq hk19 hdg hcv hw1 hw2 hl1 hsub
    go_wp2
    · go_ret
      rename_i hq0 hn
      have hq0' : q / 10 = 0 := by have := beq_iff_eq.1 hq0; omega
      rw [if_pos hq0', List.nil_append, hhi.2.2.2.2, ← xZnd] at hd2
      have e : whS n = 45 :: (48 + UInt8.ofNat (q % 10)) :: tail := by rw [whS, if_pos hn, hmm, hd2]; rfl
      rw [e]
      exact ⟨rfl, (hb.setCell (p := ⟨w.heap.size, p + 1, none⟩) (Nat.le_refl _) _).setCell (p := ⟨w.heap.size, p, none⟩) (Nat.le_refl _) _⟩
    · go_ret
      rename_i hq0 hn
      have hq0' : q / 10 = 0 := by have := beq_iff_eq.1 hq0; omega
      rw [if_pos hq0', List.nil_append, hhi.2.2.2.2, ← xZnd] at hd2
      have e : whS n = (48 + UInt8.ofNat (q % 10)) :: tail := by rw [whS, if_neg (by omega), hmm, hd2]; rfl
      rw [e]
      exact ⟨rfl, hb.setCell (p := ⟨w.heap.size, p + 1, none⟩) (Nat.le_refl _) _⟩
    · obtain ⟨hw1, hl, hjk, hq, hl1⟩ := hhi
      rename_i hq0
      have hq0' : ¬ (q / 10 = 0) := fun e => by have := beq_eq_false_iff_ne.1 hq0; omega
      refine ⟨⟨p + 1, k + 1, q / 10, l1, hjk, ?_, ?_, hw1, hb.setCell (p := ⟨w.heap.size, p + 1, none⟩) (Nat.le_refl _) _, hl, ?_, .inr hq0', ?_, by omega⟩, by simp only [intOf]; omega⟩
      · rw [show (p : Int) + 2 - 1 = ((p + 1 : Nat) : Int) by omega]
      · rw [show (q : Int) / 10 = ((q / 10 : Nat) : Int) by omega]
      · rw [hd2, if_neg hq0', show 20 - (k + 1) = 19 - k by omega]
      · refine Nat.div_lt_of_lt_mul ?_
        have e : 19 - k = 19 - (k + 1) + 1 := by omega
        rw [e, Nat.pow_succ, Nat.mul_comm] at hq
        exact hq
theorem xZhp (N : Nat) : xZcZ.Ok prog N := by
  refine ⟨⟨Tryz.f113, Tryz.func113, by kernel_rfl, by kernel_rfl⟩, fun a r h => ?_⟩
  have h : xZ7L N a.1 = some r := h
  unfold xZ7L at h
  obtain ⟨h1, h2⟩ := xZ2E h
  obtain rfl := Option.some.inj h2
  intro M S w vs hh _ hsz hrep
  obtain ⟨v, rfl⟩ : ∃ v, vs = #[v] := by
    match vs, hsz with
    | ⟨[v]⟩, _ => exact ⟨v, rfl⟩
  have h0 : v = .int .i64 a.1 := VRep.v_eq (hrep 0 (Nat.zero_lt_one))
  subst h0
  obtain ⟨k1, k2⟩ := (Bool.and_eq_true _ _).mp h1
  refine (xZiJ a.1 (xZ14.1 k1) (xZ14.1 k2) w).mono ?_
  rintro e w' ⟨rfl, hb⟩
  have hg : Grew w w' := ⟨hb.os, hb.tape, hb.output, hb.size, hb.block⟩
  exact ⟨M, S, .data (.v _), hh.grew hg, .grew hh hg⟩
end
section
open Go Go.Shelf Go.RowKit Go.Proofs.Tryz
set_option maxHeartbeats 1000000
set_option maxRecDepth 1000000
theorem xZhx (u : Nat) : ∀ k, (hxS k u).length = k
  | 0 => rfl
  | k + 1 => by simp [hxS, xZhx u k]
theorem and15 (q : Nat) (h : q < 18446744073709551616) : bits .and .u64 (q : Int) 15 = ((q % 16 : Nat) : Int) := by
  have := bits_and_u64_nat q 15 h (by decide)
  rw [show ((15 : Nat) : Int) = 15 from rfl] at this
  rw [this, show q &&& 15 = q % 16 from Nat.and_two_pow_sub_one_eq_mod q 4]
theorem xZoX {k : Nat} (h : k < 16) : ({ data := #[48, 49, 50, 51, 52, 53, 54, 55, 56, 57, 97, 98, 99, 100, 101, 102] } : ByteArray)[k]'h = hexB k := by
  have : ∀ k : Fin 16, ({ data := #[48, 49, 50, 51, 52, 53, 54, 55, 56, 57, 97, 98, 99, 100, 101, 102] } : ByteArray)[k.1]'k.2 = hexB k.1 := by decide
  exact this ⟨k, h⟩
theorem xZmU {α : Type} (a x z : α) (r : List α) : ∀ j, (a :: (List.replicate (j + 1) z ++ r)).set (j + 1) x = a :: (List.replicate j z ++ x :: r)
  | 0 => rfl
  | j + 1 => by
    have := xZmU z x z r j
    simp only [List.replicate_succ, List.cons_append, List.set_cons_succ] at this ⊢
    rw [this]
theorem xZjc (u : Nat) (hu : u < 18446744073709551616) (w : World) :
    Calls Tryz.prog 114 #[.int .u64 (u : Int)] w fun e w' => e = .returned (.string (bs (bitS u))) ∧ Below w.heap.size w w' := by
  go_enter Tryz.func114, Tryz.ntmps114
  go_wp2
  go_loopw [0, 4] (fun x i wr => ∃ j k : Nat, j + k = 16 ∧ x = .int .u64 ((u / 16 ^ k : Nat) : Int) ∧ i = .int .i64 j ∧ wr.heap[w.heap.size]? = some (.cells (Lib.byteCells (35 :: (List.replicate j 0 ++ hxS k u))).toArray 215 (0, 0)) ∧ Below w.heap.size w wr) (fun _ i _ => (intOf i).toNat)
  case atStart =>
    refine ⟨16, 0, rfl, by simp, rfl, ?_, (Below.refl _ w).alloc (Nat.le_refl _) _⟩
    rw [heap_alloc_new]
    rfl
  case round =>
    obtain ⟨j, k, hjk, rfl, rfl, hh, hb⟩ := hrel
    have hsz := hb.size
    have hlen : (Lib.byteCells (35 :: (List.replicate j 0 ++ hxS k u))).length = 17 := by rw [Lib.byteCells_length]; simp [xZhx]; omega
    have hq' : u / 16 ^ k < 18446744073709551616 := Nat.lt_of_le_of_lt (Nat.div_le_self _ _) hu
    by_cases hj : j = 0
    · subst hj
      obtain rfl : k = 16 := by omega
      have hcv := fun (P : Program) (src dst e : TypeId) hs he hd => run_convert_bytes_back (P := P) wr src dst e ⟨w.heap.size, 0, none⟩ 17 (bitS u) hs he hd (fun i hi => by
        have ea : (⟨w.heap.size, 0, none⟩ : Addr).add i = ⟨w.heap.size, i, none⟩ := by simp [Addr.add]; exact fun h => h.symm
        rw [ea, Lib.cell_of_heap hh, List.getElem?_toArray]
        show (Lib.byteCells (bitS u))[i]? = _
        simp [Lib.byteCells, List.getElem?_eq_getElem hi])
      generalize u / 16 ^ 16 = q
      have hcv' := hcv Tryz.prog 188 9 5 (by kernel_rfl) (by kernel_rfl) (by kernel_rfl)
      rw [show (bitS u).length = 17 by simp [bitS, xZhx]] at hcv'
      clear hcv
      go_wp2
      go_ret
      exact ⟨rfl, hb⟩
    · obtain ⟨j, rfl⟩ : ∃ j', j = j' + 1 := ⟨j - 1, by omega⟩
      have h1 : (0 : Int) < ((j + 1 : Nat) : Int) := by omega
      have h2 : ((j + 1 : Nat) : Int) < 17 := by omega
      have h3 : j + 1 < 17 := by omega
      have c1 : ∃ v, wr.cell? ⟨w.heap.size, j + 1, none⟩ = some v := by
        rw [Lib.cell_of_heap hh]; exact ⟨(Lib.byteCells (35 :: (List.replicate (j + 1) 0 ++ hxS k u)))[j + 1]'(by omega), by simp only [List.getElem?_toArray]; exact List.getElem?_eq_getElem _⟩
      obtain ⟨v0, c1⟩ := c1
      have c2 : wr.frozen? ⟨w.heap.size, j + 1, none⟩ = false := Lib.frozen_of_heap hh (j + 1)
      have hbl := fun v => Joins.block_setCell (i := j + 1) hh v
      have hdd : u / 16 ^ k / 16 = u / 16 ^ (k + 1) := by rw [Nat.div_div_eq_div_mul, Nat.pow_succ]
      have hhx : hexB (u / 16 ^ k % 16) :: hxS k u = hxS (k + 1) u := rfl
      generalize u / 16 ^ k = q at *
      have hb15 := and15 q hq'
      have hk1 : q % 16 < 16 := by omega
      go_wp2
      refine ⟨⟨j, k + 1, by omega, by rw [← hdd]; simp, rfl, ?_, hb.setCell (p := ⟨w.heap.size, j + 1, none⟩) (Nat.le_refl _) _⟩, by simp only [intOf]; omega⟩
      rw [hbl, xZoX hk1, ← hhx, ← xZmU 35 (hexB (q % 16)) 0 (hxS k u) j, List.setIfInBounds_toArray]
      simp only [Lib.byteCells, List.map_set]
theorem xZj1 (N : Nat) : xZer.Ok prog N := by
  refine ⟨⟨Tryz.f114, Tryz.func114, by kernel_rfl, by kernel_rfl⟩, fun a r h => ?_⟩
  have h : xZ93 N a.1 = some r := h
  unfold xZ93 at h
  obtain ⟨h1, h2⟩ := xZ2E h
  obtain rfl := Option.some.inj h2
  intro M S w vs hh _ hsz hrep
  obtain ⟨v, rfl⟩ : ∃ v, vs = #[v] := by
    match vs, hsz with
    | ⟨[v]⟩, _ => exact ⟨v, rfl⟩
  have h0 : v = .int .u64 a.1 := VRep.v_eq (hrep 0 (Nat.zero_lt_one))
  subst h0
  obtain ⟨k1, k2⟩ := (Bool.and_eq_true _ _).mp h1
  obtain ⟨u, hu⟩ : ∃ u : Nat, a.1 = (u : Int) := ⟨a.1.toNat, by have := xZ14.1 k1; omega⟩
  have k3 : a.1 < 18446744073709551616 := xZY.1 k2
  rw [hu] at k3 ⊢
  refine (xZjc u (by omega) w).mono ?_
  rintro e w' ⟨rfl, hb⟩
  have hg : Grew w w' := ⟨hb.os, hb.tape, hb.output, hb.size, hb.block⟩
  exact ⟨M, S, .data (.v _), hh.grew hg, .grew hh hg⟩
end
section
open Go Go.Shelf Go.RowKit Go.Proofs.Tryz
set_option maxHeartbeats 1000000
set_option maxRecDepth 1000000
theorem xZko (x : List UInt8) : (bs x).size = x.length := by simp [bs, ByteArray.size]
theorem xZpx (x : List UInt8) (c : UInt8) : Lib.byteCells x ++ [Value.int .u8 (c.toNat : Int)] = Lib.byteCells (x ++ [c]) := by rw [Lib.byteCells_append]; rfl
theorem xZq3 (c : UInt8) : (txC c).length ≤ 3 := by
  unfold txC; split
  · decide
  · split <;> simp
theorem lx_le (l : List UInt8) : (l.flatMap txC).length ≤ 3 * l.length := by
  induction l with
  | nil => exact Nat.zero_le _
  | cons c l ih => have := xZq3 c; simp only [List.flatMap_cons, List.length_append, List.length_cons]; omega
theorem xZqc (c : UInt8) : txC c = if c.toNat = 39 then [39, 39] else if c.toNat < 32 ∨ 126 < c.toNat ∨ c.toNat = 92 then [92, hexB (c.toNat / 16), hexB (c.toNat % 16)] else [c] := by
  unfold txC
  simp only [UInt8.lt_iff_toNat_lt, ← UInt8.toNat_inj]
  rfl
theorem xZos {k : Nat} (h : k < 16) : ({ data := #[48, 49, 50, 51, 52, 53, 54, 55, 56, 57, 97, 98, 99, 100, 101, 102] } : ByteArray)[k]'h = hexB k := by
  have : ∀ k : Fin 16, ({ data := #[48, 49, 50, 51, 52, 53, 54, 55, 56, 57, 97, 98, 99, 100, 101, 102] } : ByteArray)[k.1]'k.2 = hexB k.1 := by decide
  exact this ⟨k, h⟩
theorem xZcm {w wr : World} {x : List UInt8} (v : Int) (hI : Lib.IsBuilderF 218 5 w.heap.size w.heap.size (Lib.byteCells x) wr) (hb : Below w.heap.size w wr) (hq : x.length ≤ 100000000000) :
    Calls Tryz.prog 145 #[.pointer (some ⟨w.heap.size, 0, none⟩), .int .u8 v] wr fun e W => e = .returned .nilIface ∧ (∀ c : UInt8, v = (c.toNat : Int) → Lib.IsBuilderF 218 5 w.heap.size w.heap.size (Lib.byteCells (x ++ [c])) W) ∧ Below w.heap.size w W := by
  refine (Any.Builder_WriteByte_k lays167 bextra w.heap.size w.heap.size _ v _ hI (by rw [Lib.byteCells_length]; omega) hb.size).mono ?_
  rintro e W ⟨rfl, h, b, _⟩
  refine ⟨rfl, fun c hc => Or.inr ?_, hb.trans b⟩
  subst hc
  rw [← xZpx]; exact h
theorem xZo1 (l : List UInt8) (w : World) (hlen : l.length ≤ 10000000000) :
    Calls Tryz.prog 115 #[.string (bs l)] w fun e w' => e = .returned (.string (bs (txS l))) ∧ Below w.heap.size w w' := by
  have hat : ∀ pre c rest, l = pre ++ c :: rest → ∃ h : pre.length < (bs l).size, (bs l)[pre.length]'h = c := fun pre c rest h => by
    subst h
    refine ⟨by rw [xZko]; simp, ?_⟩
    exact (by simp : (pre ++ c :: rest).toArray[pre.length]'(by simp) = c)
  have hn' : l.length = (bs l).size := by rw [xZko]
  obtain ⟨T, hT⟩ : ∃ T, T = txS l := ⟨_, rfl⟩
  rw [← hT]
  generalize bs l = B at *
  obtain ⟨n, hn⟩ : ∃ n, B.size = n := ⟨_, rfl⟩
  rw [hn] at hn'
  go_enter Tryz.func115, Tryz.ntmps115
  go_wp2_with (go_at_call 145; refine (xZcm (x := []) 39 (Lib.IsBuilderF.of (Lib.fresh_isBuilder 218 5 w)) ((Below.refl _ w).alloc (Nat.le_refl _) _) (by simp)).mono ?_)
  rintro e W0 ⟨rfl, h0, b0⟩
  have h0 := h0 39 rfl
  go_wp2
  go_loopw [9] (fun i wr => ∃ (pre rest : List UInt8), l = pre ++ rest ∧ i = .int .i64 pre.length ∧ Lib.IsBuilderF 218 5 w.heap.size w.heap.size (Lib.byteCells ([39] ++ pre.flatMap txC)) wr ∧ Below w.heap.size w wr) (fun i _ => n - (intOf i).toNat)
  case atStart => exact ⟨[], l, rfl, rfl, h0, b0⟩
  case round =>
    obtain ⟨pre, rest, hl, rfl, hI, hb⟩ := hrel
    have hsz := hb.size
    have htx := lx_le pre
    cases rest with
    | nil =>
      have hc : ¬ ((pre.length : Int) < (n : Int)) := by rw [← hn', hl]; simp
      rw [List.append_nil] at hl
      have hq : ([39] ++ pre.flatMap txC).length ≤ 100000000000 := by subst hl; simp only [List.length_append, List.length_cons, List.length_nil]; omega
      clear hlen hat htx
      subst hl
      go_wp2_with (first | (go_at_call 145; refine (xZcm 39 hI hb hq).mono ?_; rintro e W1 ⟨rfl, h1, b1⟩; have h1 := h1 39 rfl) | (go_at_call 147; refine (Any.Builder_String_any_k lays169 bextra w.heap.size w.heap.size _ _ h1 (by have := b1.size; omega)).mono ?_; rintro e W2 ⟨rfl, _, b2, _⟩))
      go_ret
      exact ⟨by rw [hT]; rfl, b1.trans b2⟩
    | cons c rest =>
      have hlp : pre.length < l.length := by rw [hl]; simp
      have hc : ((pre.length : Int) < (n : Int)) := by omega
      have hlt : pre.length < n := by omega
      obtain ⟨hx1, hx⟩ := hat pre c rest hl
      have hq : ([39] ++ pre.flatMap txC).length ≤ 100000000000 - 10 := by simp only [List.length_append, List.length_cons, List.length_nil]; omega
      clear hat
      have hq1 : ([39] ++ pre.flatMap txC).length ≤ 100000000000 := by omega
      have hq2 : (([39] ++ pre.flatMap txC) ++ [92]).length ≤ 100000000000 := by rw [List.length_append]; simp only [List.length_cons, List.length_nil]; omega
      have hq3 : ∀ d : UInt8, ((([39] ++ pre.flatMap txC) ++ [92]) ++ [d]).length ≤ 100000000000 := fun d => by rw [List.length_append, List.length_append]; simp only [List.length_cons, List.length_nil]; omega
      have h256 : c.toNat < 256 := c.toNat_lt
      have hk1 : c.toNat / 16 < 16 := by omega
      have hk2 : c.toNat % 16 < 16 := by omega
      go_wp2_with (first
        | (go_at_call 145; refine (xZcm _ hI hb hq1).mono ?_; rintro e W1 ⟨rfl, h1, b1⟩; first | have h1 := h1 92 rfl | have h1 := h1 c rfl)
        | (go_at_call 145; refine (xZcm _ h1 b1 hq2).mono ?_; rintro e W2 ⟨rfl, h2, b2⟩; have h2 := h2 _ rfl)
        | (go_at_call 145; refine (xZcm _ h2 b2 (hq3 _)).mono ?_; rintro e W3 ⟨rfl, h3, b3⟩; have h3 := h3 _ rfl)
        | (go_at_call 146; refine (Any.Builder_WriteString_k lays166 bextra w.heap.size w.heap.size _ _ _ hI (by rw [Lib.byteCells_length]; exact Nat.le_trans (Nat.add_le_add hq1 (Nat.le_refl _)) (by decide)) hsz).mono ?_; rintro e W1 ⟨rfl, h1, b1, _⟩))
      all_goals
        refine ⟨⟨pre ++ [c], rest, by rw [hl]; simp, by simp, ?_, by first | assumption | exact hb.trans (by assumption)⟩, by simp only [intOf]; omega⟩
        rw [show [39] ++ (pre ++ [c]).flatMap txC = ([39] ++ pre.flatMap txC) ++ txC c by simp, xZqc]
        clear hT hl hn' hn hc hlt hlp hx hx1
        try simp only [beq_iff_eq, beq_eq_false_iff_ne, ne_eq] at *
        first
          | (rw [if_pos (by omega)]
             rw [show Lib.strCells { data := #[39, 39] } = Lib.byteCells [39, 39] from rfl, ← Lib.byteCells_append] at h1
             exact Or.inr h1)
          | (rw [if_neg (by omega), if_pos (by omega)]
             rw [xZos hk1, xZos hk2] at h3
             simpa only [List.append_assoc, List.cons_append, List.nil_append] using h3)
          | (rw [if_neg (by omega), if_neg (by omega)]; exact h1)
theorem xZhR (N : Nat) : xZeA.Ok prog N := by
  refine ⟨⟨Tryz.f115, Tryz.func115, by kernel_rfl, by kernel_rfl⟩, fun a r h => ?_⟩
  have h : xZ8X N a.1 = some r := h
  unfold xZ8X at h
  obtain ⟨h1, h2⟩ := xZ2E h
  obtain rfl := Option.some.inj h2
  intro M S w vs hh _ hsz hrep
  obtain ⟨v, rfl⟩ : ∃ v, vs = #[v] := by
    match vs, hsz with
    | ⟨[v]⟩, _ => exact ⟨v, rfl⟩
  have h0 : v = .string (bs a.1) := VRep.v_eq (hrep 0 (Nat.zero_lt_one))
  subst h0
  refine (xZo1 a.1 w (Nat.le_of_ble_eq_true h1)).mono ?_
  rintro e w' ⟨rfl, hb⟩
  have hg : Grew w w' := ⟨hb.os, hb.tape, hb.output, hb.size, hb.block⟩
  exact ⟨M, S, .data (.v _), hh.grew hg, .grew hh hg⟩
end
section
open Go Go.RowKit Go.Extern.Stop Go.Stop Go.Extern Go.Proofs.Tryz
set_option maxHeartbeats 4000000
set_option maxRecDepth 1000000
theorem xZfZ (t : Addr) (w : World) : (ReflectliteValue.unpack (.iface 128 (.pointer (some t)))).run Tryz.prog w
    = .ok (.agg #[.pointer (some ⟨3, 128, none⟩), .pointer (some ⟨w.heap.size, 0, none⟩), .int .u64 150]) (w.alloc (.cells #[.pointer (some t)] 128)) := by kernel_rfl
theorem xZjO (a : Addr) (w : World) : (ReflectliteValue.methodAny (ReflectliteValue.valueError "reflectlite.Value.Type" 0) (fun t _ _ _ => ReflectliteType.toType t) #[.agg #[.pointer (some ⟨3, 128, none⟩), .pointer (some a), .int .u64 150]]).run Tryz.prog w
    = .ok (.iface 160 (.agg #[.pointer (some ⟨3, 128, none⟩)])) w := by kernel_rfl
theorem xZf0 (h : Value) (w : World) : (Go.method 397 160 (.agg #[h]) "Kind").run Tryz.prog w = .ok (217, h) w := by kernel_rfl
theorem xZke (w : World) : ((ReflectliteType.abiMethod fun t => (fun a : Nat => Value.int IntKind.u8 (a : Int)) <$> Rtype.kind t) #[.pointer (some ⟨3, 128, none⟩)]).run Tryz.prog w = .ok (.int .u8 22) w := by kernel_rfl
theorem xZk2 (w : World) : ((ReflectliteType.abiMethod fun t => (fun a : Nat => Value.int IntKind.u8 (a : Int)) <$> Rtype.kind t) #[.pointer (some ⟨3, 84, none⟩)]).run Tryz.prog w = .ok (.int .u8 22) w := by kernel_rfl
theorem xZox (z : Sem Value) (f : TypeId → Addr → Nat → Nat → Sem Value) (v : Value) :
    ReflectliteValue.method z f #[v] = (do match ← ReflectliteValue.parts v with | none => z | some (t, a, fl) => f t a fl (fl % 32)) := rfl
theorem xZen (a : Addr) (w : World) : (ReflectliteValue.parts (.agg #[.pointer (some ⟨3, 128, none⟩), .pointer (some a), .int .u64 150])).run Tryz.prog w = .ok (some (128, a, 150)) w := by kernel_rfl
theorem xZhV (a p : Addr) (W : World) (ha : W.cell? a = some (.pointer (some p))) :
    (ReflectliteValue.method (ReflectliteValue.valueError "reflectlite.Value.IsNil" 0) ReflectliteValue.isNil #[.agg #[.pointer (some ⟨3, 128, none⟩), .pointer (some a), .int .u64 150]]).run Tryz.prog W = .ok (.bool false) W := by
  rw [xZox]
  simp only [Sem.run_bind, xZen, Result.andThen]
  simp [ReflectliteValue.isNil, loadVar, isAgg, underlying, Tryz.underlying128, ha, Result.andThen]
theorem xZea (h : Value) (w : World) : (Go.method 397 160 (.agg #[h]) "Elem").run Tryz.prog w = .ok (229, .agg #[h]) w := by kernel_rfl
theorem xZan (h : Value) (w : World) : (Go.method 397 160 (.agg #[h]) "Implements").run Tryz.prog w = .ok (230, .agg #[h]) w := by kernel_rfl
theorem xZ9o (h : Value) (w : World) : (Go.method 397 160 (.agg #[h]) "AssignableTo").run Tryz.prog w = .ok (227, .agg #[h]) w := by kernel_rfl
theorem xZjF (w : World) : (ReflectliteType.method ReflectliteType.elem #[.agg #[.pointer (some ⟨3, 128, none⟩)]]).run Tryz.prog w = .ok (.iface 160 (.agg #[.pointer (some ⟨3, 84, none⟩)])) w := by kernel_rfl
theorem xZcy (w : World) : (ReflectliteType.relation "Implements" ReflectliteType.implements_ #[.agg #[.pointer (some ⟨3, 84, none⟩)], .iface 160 (.agg #[.pointer (some ⟨3, 27, none⟩)])]).run Tryz.prog w = .ok (.bool true) w := by kernel_rfl
theorem xZht (v : Value) (w : World) : (ReflectliteType.typeOf #[.iface 84 v]).run Tryz.prog w = .ok (.iface 160 (.agg #[.pointer (some ⟨3, 84, none⟩)])) w := by kernel_rfl
theorem xZcJ (w : World) : (ReflectliteType.relation "AssignableTo" ReflectliteType.assignableTo #[.agg #[.pointer (some ⟨3, 84, none⟩)], .iface 160 (.agg #[.pointer (some ⟨3, 84, none⟩)])]).run Tryz.prog w = .ok (.bool true) w := by kernel_rfl
theorem xZg0 (e : Addr) (w : World) : (ReflectliteValue.unpack (.iface 84 (.pointer (some e)))).run Tryz.prog w
    = .ok (.agg #[.pointer (some ⟨3, 84, none⟩), .pointer (some ⟨w.heap.size, 0, none⟩), .int .u64 150]) (w.alloc (.cells #[.pointer (some e)] 84)) := by kernel_rfl
theorem xZgX (w : World) : (Rtype.elem? 128).run Tryz.prog w = .ok (some 84) w := by kernel_rfl
theorem xZom (p : Addr) (w : World) : (ReflectliteValue.mk 84 p ReflectliteValue.flagAddr).run Tryz.prog w = .ok (.agg #[.pointer (some ⟨3, 84, none⟩), .pointer (some p), .int .u64 406]) w := by kernel_rfl
theorem xZid (a p : Addr) (W : World) (ha : W.cell? a = some (.pointer (some p))) :
    (ReflectliteValue.method (ReflectliteValue.valueError "reflectlite.Value.Elem" 0) ReflectliteValue.elem #[.agg #[.pointer (some ⟨3, 128, none⟩), .pointer (some a), .int .u64 150]]).run Tryz.prog W
      = .ok (.agg #[.pointer (some ⟨3, 84, none⟩), .pointer (some p), .int .u64 406]) W := by
  rw [xZox]
  simp only [Sem.run_bind, xZen, Result.andThen]
  simp [ReflectliteValue.elem, loadVar, isAgg, underlying, Tryz.underlying128, ha, Result.andThen, xZgX, xZom]
theorem xZpW (v x : Value) : ReflectliteValue.set #[v, x] = (do
    let (some (dst, a, fl), some (src, b, _)) := (← ReflectliteValue.parts v, ← ReflectliteValue.parts x)
      | unsupported (.noEntry "extern/(internal/reflectlite.Value).Set.zeroValue")
    if fl / ReflectliteValue.flagAddr % 2 == 0 then unsupported (.noEntry "extern/(internal/reflectlite.Value).Set.unaddressable")
    let val ← loadVar src b
    if ← Rtype.directlyAssignable dst src then storeVar dst a val
    else if ← Rtype.implements dst src then
      if (← Rtype.kind src) == 20 then
        match val with
        | .nilIface => unsupported (.noEntry "extern/reflectlite: a nil value of one interface type handed on as a value of another")
        | _ => storeVar dst a val
      else storeVar dst a (.iface src val)
    else panicString ("reflectlite.Set: value of type " ++ (← Rtype.spelt src) ++ " is not assignable to type " ++ (← Rtype.spelt dst))
    pure (.tuple #[])) := rfl
theorem xZhm (a : Addr) (w : World) : (ReflectliteValue.parts (.agg #[.pointer (some ⟨3, 84, none⟩), .pointer (some a), .int .u64 406])).run Tryz.prog w = .ok (some (84, a, 406)) w := by kernel_rfl
theorem xZj3 (a : Addr) (w : World) : (ReflectliteValue.parts (.agg #[.pointer (some ⟨3, 84, none⟩), .pointer (some a), .int .u64 150])).run Tryz.prog w = .ok (some (84, a, 150)) w := by kernel_rfl
theorem xZhd (w : World) : (Rtype.directlyAssignable 84 84).run Tryz.prog w = .ok true w := by kernel_rfl
theorem xZm4 (ta b e : Addr) (old : Value) (W : World) (hb : W.cell? b = some (.pointer (some e))) (ht : W.cell? ta = some old) (hf : W.frozen? ta = false) :
    (ReflectliteValue.set #[.agg #[.pointer (some ⟨3, 84, none⟩), .pointer (some ta), .int .u64 406], .agg #[.pointer (some ⟨3, 84, none⟩), .pointer (some b), .int .u64 150]]).run Tryz.prog W
      = .ok (.tuple #[]) (W.setCell ta (.pointer (some e))) := by
  rw [xZpW]
  simp only [Sem.run_bind, xZhm, xZj3, Result.andThen]
  simp [ReflectliteValue.flagAddr, loadVar, isAgg, underlying, Tryz.underlying84, hb, Result.andThen, xZhd, storeVar, Value.cells, storeCells, Addr.add]
  rw [run_store Tryz.prog W ta _ _ (by rfl)]
  simp [ht, hf]
set_option maxHeartbeats 4000000 in
theorem xZpw (e t : Addr) (old : Value) (w : World) (hg : w.cell? ⟨0, 0, none⟩ = some (.iface 160 (.agg #[.pointer (some ⟨3, 27, none⟩)]))) (ht0 : w.cell? t = some old) (hf0 : w.frozen? t = false) :
    Calls Tryz.prog 36 #[.iface 84 (.pointer (some e)), .iface 128 (.pointer (some t))] w fun ev w' => ev = .returned (.bool true) ∧ w' = ((((w.alloc (.cells #[.pointer (some t)] 128)).alloc (.cells #[.pointer (some ⟨3, 128, none⟩), .pointer (some ⟨w.heap.size, 0, none⟩), .int .u64 150] 132)).alloc (.cells #[.pointer (some ⟨3, 128, none⟩), .pointer (some ⟨w.heap.size, 0, none⟩), .int .u64 150] 132)).alloc (.cells #[.pointer (some e)] 84)).setCell t (.pointer (some e)) := by
  have h6 := @run_callFunc_extern Tryz.prog 68 _ (fun args => ReflectliteValue.unpack (args.getD 0 (.tuple #[]))) Tryz.func68 (by kernel_rfl) (by kernel_rfl) (by kernel_rfl) (by kernel_rfl)
  have h7 := @run_callFunc_extern Tryz.prog 69 _ (ReflectliteValue.methodAny (ReflectliteValue.valueError "reflectlite.Value.Type" 0) (fun t _ _ _ => ReflectliteType.toType t)) Tryz.func69 (by kernel_rfl) (by kernel_rfl) (by kernel_rfl) (by kernel_rfl)
  have h8 := @run_callFunc_extern Tryz.prog 70 _ (ReflectliteValue.method (ReflectliteValue.valueError "reflectlite.Value.IsNil" 0) ReflectliteValue.isNil) Tryz.func70 (by kernel_rfl) (by kernel_rfl) (by kernel_rfl) (by kernel_rfl)
  have h27 := @run_callFunc_extern Tryz.prog 217 _ (ReflectliteType.abiMethod fun t => do pure (.int .u8 (← Rtype.kind t))) Tryz.func217 (by kernel_rfl) (by kernel_rfl) (by kernel_rfl) (by kernel_rfl)
  have h37 := @run_callFunc_extern Tryz.prog 229 _ (ReflectliteType.method ReflectliteType.elem) Tryz.func229 (by kernel_rfl) (by kernel_rfl) (by kernel_rfl) (by kernel_rfl)
  have h38 := @run_callFunc_extern Tryz.prog 230 _ (ReflectliteType.relation "Implements" ReflectliteType.implements_) Tryz.func230 (by kernel_rfl) (by kernel_rfl) (by kernel_rfl) (by kernel_rfl)
  have h10 := @run_callFunc_extern Tryz.prog 72 _ ReflectliteType.typeOf Tryz.func72 (by kernel_rfl) (by kernel_rfl) (by kernel_rfl) (by kernel_rfl)
  have h35 := @run_callFunc_extern Tryz.prog 227 _ (ReflectliteType.relation "AssignableTo" ReflectliteType.assignableTo) Tryz.func227 (by kernel_rfl) (by kernel_rfl) (by kernel_rfl) (by kernel_rfl)
  have h11 := @run_callFunc_extern Tryz.prog 108 _ (ReflectliteValue.method (ReflectliteValue.valueError "reflectlite.Value.Elem" 0) ReflectliteValue.elem) Tryz.func108 (by kernel_rfl) (by kernel_rfl) (by kernel_rfl) (by kernel_rfl)
  have h12 := @run_callFunc_extern Tryz.prog 109 _ ReflectliteValue.set Tryz.func109 (by kernel_rfl) (by kernel_rfl) (by kernel_rfl) (by kernel_rfl)
  have tO := xZht
  have mA := xZ9o
  have a25 := xZcJ
  have v25 := xZg0
  have f6 := xZfZ
  have f7 := xZjO
  have mK := xZf0
  have mE := xZea
  have mI := xZan
  have k27 := xZke
  have k25 := xZk2
  have e27 := xZjF
  have i25 := xZcy
  have n8 := xZhV ⟨w.heap.size, 0, none⟩ t ((w.alloc (.cells #[.pointer (some t)] 128)).alloc (.cells #[.pointer (some ⟨3, 128, none⟩), .pointer (some ⟨w.heap.size, 0, none⟩), .int .u64 150] 132)) (by simp)
  have hlt : 0 < w.heap.size := by
    rcases Nat.lt_or_ge 0 w.heap.size with h | h
    · exact h
    · simp [World.cell?, Array.getElem?_eq_none h] at hg
  have hg2 : ((w.alloc (.cells #[.pointer (some t)] 128)).alloc (.cells #[.pointer (some ⟨3, 128, none⟩), .pointer (some ⟨w.heap.size, 0, none⟩), .int .u64 150] 132)).cell? ⟨0, 0, none⟩ = some (.iface 160 (.agg #[.pointer (some ⟨3, 27, none⟩)])) := by
    rw [World.cell?_alloc_lt _ _ ⟨0, 0, none⟩ (by simp), World.cell?_alloc_lt _ _ ⟨0, 0, none⟩ hlt]; exact hg
  have htl : t.block < w.heap.size := by
    rcases Nat.lt_or_ge t.block w.heap.size with h | h
    · exact h
    · simp [World.cell?, Array.getElem?_eq_none h] at ht0
  have el := xZid ⟨w.heap.size, 0, none⟩ t (((w.alloc (.cells #[.pointer (some t)] 128)).alloc (.cells #[.pointer (some ⟨3, 128, none⟩), .pointer (some ⟨w.heap.size, 0, none⟩), .int .u64 150] 132)).alloc (.cells #[.pointer (some ⟨3, 128, none⟩), .pointer (some ⟨w.heap.size, 0, none⟩), .int .u64 150] 132)) (by rw [World.cell?_alloc_lt _ _ ⟨w.heap.size, 0, none⟩ (by simp; omega)]; simp)
  have st := xZm4 t ⟨w.heap.size + 1 + 1 + 1, 0, none⟩ e old ((((w.alloc (.cells #[.pointer (some t)] 128)).alloc (.cells #[.pointer (some ⟨3, 128, none⟩), .pointer (some ⟨w.heap.size, 0, none⟩), .int .u64 150] 132)).alloc (.cells #[.pointer (some ⟨3, 128, none⟩), .pointer (some ⟨w.heap.size, 0, none⟩), .int .u64 150] 132)).alloc (.cells #[.pointer (some e)] 84))
    (by rw [World.cell?_alloc_at _ _ _ _ (by simp)]; rfl)
    (by rw [World.cell?_alloc_lt _ _ t (by simp; omega), World.cell?_alloc_lt _ _ t (by simp; omega), World.cell?_alloc_lt _ _ t (by simp; omega), World.cell?_alloc_lt _ _ t htl]; exact ht0)
    (by rw [World.frozen?_alloc_old _ _ t (by simp; omega), World.frozen?_alloc_old _ _ t (by simp; omega), World.frozen?_alloc_old _ _ t (by simp; omega), World.frozen?_alloc_old _ _ t (Nat.ne_of_lt htl)]; exact hf0)
  go_enter Tryz.func36, Tryz.ntmps36
  go_wp2
  refine wp_loop_rounds 1 ?_
  rw [rounds_succ]
  go_wp2
  go_ret
  exact ⟨rfl, rfl⟩
theorem xZlf (p : Addr) (w : World) (hg : w.cell? ⟨0, 0, none⟩ = some (.iface 160 (.agg #[.pointer (some ⟨3, 27, none⟩)]))) (hlt : 0 < w.heap.size) : Calls Tryz.prog 35 #[.iface 84 (.pointer (some p))] w fun e w' => e = .returned (.pointer (some p)) ∧ Below w.heap.size w w' := by
  have hgA : (w.alloc (.cells #[.pointer none] 84)).cell? ⟨0, 0, none⟩ = some (.iface 160 (.agg #[.pointer (some ⟨3, 27, none⟩)])) := by
    rw [World.cell?_alloc_lt _ _ ⟨0, 0, none⟩ hlt]; exact hg
  have htA : (w.alloc (.cells #[.pointer none] 84)).cell? ⟨w.heap.size, 0, none⟩ = some (.pointer none) := by simp
  have hfA : (w.alloc (.cells #[.pointer none] 84)).frozen? ⟨w.heap.size, 0, none⟩ = false := by simp
  go_enter Tryz.func35, Tryz.ntmps35
  go_wp2_with (go_at_call 36; refine (xZpw _ _ (.pointer none) _ hgA htA hfA).mono ?_; rintro e w' ⟨rfl, rfl⟩)
  go_ret
  refine ⟨rfl, ?_⟩
  exact (((((Below.refl _ w).alloc (Nat.le_refl _) _).alloc (by simp) _).alloc (by simp; omega) _).alloc (by simp; omega) _).alloc (by simp; omega) _
theorem xZad (N : Nat) : xZ7P.Ok prog N := by
  refine ⟨⟨Tryz.f35, Tryz.func35, by kernel_rfl, by kernel_rfl⟩, fun a r h => ?_⟩
  obtain ⟨⟨n, p, ⟨⟩⟩, ⟨⟩⟩ := a
  have h : xZ4G N n p = some r := h
  obtain rfl := Option.some.inj h
  intro M S w vs hh hp hsz hrep
  obtain ⟨v, rfl⟩ : ∃ v, vs = #[v] := by
    match vs, hsz with
    | ⟨[v]⟩, _ => exact ⟨v, rfl⟩
  obtain ⟨u, hu, h1⟩ := xZeS (hrep 0 (Nat.zero_lt_one))
  have hu : v = .iface 84 u := hu
  subst hu
  have hq : ∃ q, u = .pointer (some q) := by
    cases h1 with | data h1 => cases h1; exact ⟨_, rfl⟩
  obtain ⟨q, rfl⟩ := hq
  obtain ⟨h2, _, h3⟩ := hp _ _ (show envCell prog = some (0, .iface 160 (.agg #[.pointer (some ⟨3, 27, none⟩)])) from by kernel_rfl)
  refine (xZlf q w h2 h3).mono ?_
  rintro e w' ⟨rfl, hb⟩
  have hg : Grew w w' := ⟨hb.os, hb.tape, hb.output, hb.size, hb.block⟩
  exact ⟨M, S, VRep.grew hh hg h1, hh.grew hg, .grew hh hg⟩
end
section
open Go.Proofs.Tryz
set_option maxRecDepth 1000000
noncomputable section
noncomputable def xZh9 : Fn xZ9g := ⟨f86, [], ⟨[], [], sbf, bof⟩, [], [true], none, 0, 0, fun _ _ => true, none⟩
theorem xZgW : xZh9.Ok prog := ⟨Is.of (by kernel_rfl) (by kernel_rfl), by kernel_rfl, xZc sb_ok bo_ok, trivial, trivial, fun _ => by kernel_rfl⟩
theorem xZcX (N : Nat) : xZ9g.Ok prog N := xZgW.give tb_ok hm N N trivial fun a r s h => by
  exact s.main [] trivial (.trans (by kernel_rfl) h)
noncomputable def xZ8H : Fn xZS := ⟨f89, [], ⟨[], [], sbf, bof⟩, [xZ5z], [false], none, 1, 1, fun _ _ => true, none⟩
theorem xZ8L : xZ8H.Ok prog := ⟨Is.of (by kernel_rfl) (by kernel_rfl), by kernel_rfl, xZc sb_ok bo_ok, trivial, trivial, fun _ => by kernel_rfl⟩
theorem xZ1K (N : Nat) : xZS.Ok prog N := xZ8L.give tb_ok hm N N ⟨xZ7G N, trivial⟩ fun a r s h => by
  exact s.main [] trivial (.trans (by kernel_rfl) h)
noncomputable def xZhc : Fn xZ7j := ⟨f87, [], ⟨[], [], sbf, bof⟩, [], [true], none, 0, 0, fun _ _ => true, none⟩
theorem xZh2 : xZhc.Ok prog := ⟨Is.of (by kernel_rfl) (by kernel_rfl), by kernel_rfl, xZc sb_ok bo_ok, trivial, trivial, fun _ => by kernel_rfl⟩
theorem xZb8 (N : Nat) : xZ7j.Ok prog N := xZh2.give tb_ok hm N N trivial fun a r s h => by
  exact s.main [] trivial (.trans (by kernel_rfl) h)
noncomputable def xZhE : Fn xZcw := ⟨f120, [], ⟨[], [], sbf, bof⟩, [xZ9g, xZ7j], [true], none, 0, 0, fun _ _ => true, none⟩
theorem xZiU : xZhE.Ok prog := ⟨Is.of (by kernel_rfl) (by kernel_rfl), by kernel_rfl, xZc sb_ok bo_ok, trivial, trivial, fun _ => by kernel_rfl⟩
theorem xZj9 (N : Nat) : xZcw.Ok prog N := xZiU.give tb_ok hm N N ⟨xZcX N, xZb8 N, trivial⟩ fun a r s h => by
  exact s.main [] trivial (.trans (by kernel_rfl) h)
noncomputable def xZ7p : Fn xZ31 := ⟨f119, [], ⟨[], [], sbf, bof⟩, [xZcw], [true], none, 1, 1, fun _ _ => true, none⟩
theorem xZ7J : xZ7p.Ok prog := ⟨Is.of (by kernel_rfl) (by kernel_rfl), by kernel_rfl, xZc sb_ok bo_ok, trivial, trivial, fun _ => by kernel_rfl⟩
theorem xZ7y (N : Nat) : xZ31.Ok prog N := xZ7J.give tb_ok hm N N ⟨xZj9 N, trivial⟩ fun a r s h => by
  have l0 := s.loop 0 xZ1I (xZ3I N) N fun next0 h0 => by
    exact fun c v => s.seg 0 xZ1I [(0, .of xZ1I next0)] ⟨h0, trivial⟩ (by kernel_rfl) (by kernel_rfl)
  exact s.main [(0, .of xZ1I (xZ69 N))] ⟨l0, trivial⟩ (.trans (by kernel_rfl) h)
noncomputable def xZe5 : Fn xZ8u := ⟨f122, [], ⟨[], [], sbf, bof⟩, [], [true], none, 0, 0, fun _ _ => true, none⟩
theorem xZdM : xZe5.Ok prog := ⟨Is.of (by kernel_rfl) (by kernel_rfl), by kernel_rfl, xZc sb_ok bo_ok, trivial, trivial, fun _ => by kernel_rfl⟩
theorem xZdC (N : Nat) : xZ8u.Ok prog N := xZdM.give tb_ok hm N N trivial fun a r s h => by
  exact s.main [] trivial (.trans (by kernel_rfl) h)
noncomputable def xZ8V : Fn xZV := ⟨f121, [], ⟨[(24, 0)], [], sbf, bof⟩, [], [false], none, 1, 1, fun _ _ => true, none⟩
theorem xZ98 : xZ8V.Ok prog := ⟨Is.of (by kernel_rfl) (by kernel_rfl), by kernel_rfl, xZc sb_ok bo_ok, trivial, trivial, fun _ => by kernel_rfl⟩
theorem xZ1Y (N : Nat) : xZV.Ok prog N := xZ98.give tb_ok hm N N trivial fun a r s h => by
  exact s.main [] trivial (.trans (by kernel_rfl) h)
noncomputable def xZbG : Fn xZ45 := ⟨f83, [], ⟨[], [], sbf, bof⟩, [], [true], none, 0, 0, fun _ _ => true, none⟩
theorem xZbr : xZbG.Ok prog := ⟨Is.of (by kernel_rfl) (by kernel_rfl), by kernel_rfl, xZc sb_ok bo_ok, trivial, trivial, fun _ => by kernel_rfl⟩
theorem xZ8y (N : Nat) : xZ45.Ok prog N := xZbr.give tb_ok hm N N trivial fun a r s h => by
  exact s.main [] trivial (.trans (by kernel_rfl) h)
noncomputable def xZ8R : Fn xZ3f := ⟨f90, [], ⟨[], [], sbf, bof⟩, [xZ31, xZ8u, xZV, xZ45, xZS], [false], none, 1, 1, fun _ _ => true, none⟩
theorem xZ8J : xZ8R.Ok prog := ⟨Is.of (by kernel_rfl) (by kernel_rfl), by kernel_rfl, xZc sb_ok bo_ok, trivial, trivial, fun _ => by kernel_rfl⟩
theorem xZ8B (N : Nat) : xZ3f.Ok prog N := xZ8J.give tb_ok hm N N ⟨xZ7y N, xZdC N, xZ1Y N, xZ8y N, xZ1K N, trivial⟩ fun a r s h => by
  exact s.main [] trivial (.trans (by kernel_rfl) h)
noncomputable def xZ7M : Fn xZ2Z := ⟨f119, [], ⟨[], [], sbf, bof⟩, [xZ7j], [true], none, 1, 1, fun _ _ => true, none⟩
theorem xZ7E : xZ7M.Ok prog := ⟨Is.of (by kernel_rfl) (by kernel_rfl), by kernel_rfl, xZc sb_ok bo_ok, trivial, trivial, fun _ => by kernel_rfl⟩
theorem xZ7z (N : Nat) : xZ2Z.Ok prog N := xZ7E.give tb_ok hm N N ⟨xZb8 N, trivial⟩ fun a r s h => by
  have l0 := s.loop 0 xZ1z (xZ3L N) N fun next0 h0 => by
    exact fun c v => s.seg 0 xZ1z [(0, .of xZ1z next0)] ⟨h0, trivial⟩ (by kernel_rfl) (by kernel_rfl)
  exact s.main [(0, .of xZ1z (xZ6b N))] ⟨l0, trivial⟩ (.trans (by kernel_rfl) h)
noncomputable def xZeB : Fn xZ6q := ⟨f78, [], ⟨[], [], sbf, bof⟩, [], [true], none, 0, 0, fun _ _ => true, none⟩
theorem xZej : xZeB.Ok prog := ⟨Is.of (by kernel_rfl) (by kernel_rfl), by kernel_rfl, xZc sb_ok bo_ok, trivial, trivial, fun _ => by kernel_rfl⟩
theorem xZbk (N : Nat) : xZ6q.Ok prog N := xZej.give tb_ok hm N N trivial fun a r s h => by
  exact s.main [] trivial (.trans (by kernel_rfl) h)
noncomputable def xZ7i : Fn xZ32 := ⟨f91, [], ⟨[], [], sbf, bof⟩, [xZ2Z, xZS, xZ6q, xZV], [false], none, 1, 1, fun _ _ => true, none⟩
theorem xZ7m : xZ7i.Ok prog := ⟨Is.of (by kernel_rfl) (by kernel_rfl), by kernel_rfl, xZc sb_ok bo_ok, trivial, trivial, fun _ => by kernel_rfl⟩
theorem xZ7k (N : Nat) : xZ32.Ok prog N := xZ7m.give tb_ok hm N N ⟨xZ7z N, xZ1K N, xZbk N, xZ1Y N, trivial⟩ fun a r s h => by
  have l0 := s.loop 0 xZ1J (xZ3O N) N fun next0 h0 => by
    exact fun c v => s.seg 0 xZ1J [(0, .of xZ1J next0)] ⟨h0, trivial⟩ (by kernel_rfl) (by kernel_rfl)
  exact s.main [(0, .of xZ1J (xZ5X N))] ⟨l0, trivial⟩ (.trans (by kernel_rfl) h)
noncomputable def xZ8G : Fn xZ3h := ⟨f118, [(148, .ib)], ⟨[], [], sbf, bof⟩, [], [true], none, 0, 0, fun _ _ => true, none⟩
theorem xZ8S : xZ8G.Ok prog := ⟨Is.of (by kernel_rfl) (by kernel_rfl), by kernel_rfl, xZc sb_ok bo_ok, trivial, ⟨ExtIs.mk' f148 (by kernel_rfl) (by kernel_rfl) (by kernel_rfl) (by kernel_rfl) (by kernel_rfl), trivial⟩, fun _ => by kernel_rfl⟩
theorem xZ8F (N : Nat) : xZ3h.Ok prog N := xZ8S.give tb_ok hm N N trivial fun a r s h => by
  exact s.main [] trivial (.trans (by kernel_rfl) h)
noncomputable def xZa8 : Fn xZ2D := ⟨f88, [], ⟨[], [], sbf, bof⟩, [xZ3h], [true], none, 0, 0, fun _ _ => true, none⟩
theorem xZal : xZa8.Ok prog := ⟨Is.of (by kernel_rfl) (by kernel_rfl), by kernel_rfl, xZc sb_ok bo_ok, trivial, trivial, fun _ => by kernel_rfl⟩
theorem xZ4A (N : Nat) : xZ2D.Ok prog N := xZal.give tb_ok hm N N ⟨xZ8F N, trivial⟩ fun a r s h => by
  exact s.main [] trivial (.trans (by kernel_rfl) h)
noncomputable def xZgf : Fn xZ8b := ⟨f123, [], ⟨[], [], sbf, bof⟩, [xZ2D], [true], none, 0, 0, fun _ _ => true, none⟩
theorem xZfc : xZgf.Ok prog := ⟨Is.of (by kernel_rfl) (by kernel_rfl), by kernel_rfl, xZc sb_ok bo_ok, trivial, trivial, fun _ => by kernel_rfl⟩
theorem xZcj (N : Nat) : xZ8b.Ok prog N := xZfc.give tb_ok hm N N ⟨xZ4A N, trivial⟩ fun a r s h => by
  exact s.main [] trivial (.trans (by kernel_rfl) h)
noncomputable def xZjv : Fn xZde := ⟨f149, [(163, .fb)], ⟨[], [], sbf, bof⟩, [], [true], none, 0, 0, fun _ _ => true, none⟩
theorem xZjg : xZjv.Ok prog := ⟨Is.of (by kernel_rfl) (by kernel_rfl), by kernel_rfl, xZc sb_ok bo_ok, trivial, ⟨ExtIs.mk' f163 (by kernel_rfl) (by kernel_rfl) (by kernel_rfl) (by kernel_rfl) (by kernel_rfl), trivial⟩, fun _ => by kernel_rfl⟩
theorem xZjz (N : Nat) : xZde.Ok prog N := xZjg.give tb_ok hm N N trivial fun a r s h => by
  exact s.main [] trivial (.trans (by kernel_rfl) h)
noncomputable def xZfy : Fn xZ5M := ⟨f124, [], ⟨[], [], sbf, bof⟩, [xZde], [true], none, 0, 0, fun _ _ => true, none⟩
theorem xZgc : xZfy.Ok prog := ⟨Is.of (by kernel_rfl) (by kernel_rfl), by kernel_rfl, xZc sb_ok bo_ok, trivial, trivial, fun _ => by kernel_rfl⟩
theorem xZ9S (N : Nat) : xZ5M.Ok prog N := xZgc.give tb_ok hm N N ⟨xZjz N, trivial⟩ fun a r s h => by
  exact s.main [] trivial (.trans (by kernel_rfl) h)
noncomputable def xZdn : Fn xZ8o := ⟨f125, [], ⟨[], [], sbf, bof⟩, [xZ5M], [true], none, 0, 0, fun _ _ => true, none⟩
theorem xZdP : xZdn.Ok prog := ⟨Is.of (by kernel_rfl) (by kernel_rfl), by kernel_rfl, xZc sb_ok bo_ok, trivial, trivial, fun _ => by kernel_rfl⟩
theorem xZdQ (N : Nat) : xZ8o.Ok prog N := xZdP.give tb_ok hm N N ⟨xZ9S N, trivial⟩ fun a r s h => by
  exact s.main [] trivial (.trans (by kernel_rfl) h)
noncomputable def xZ7o : Fn xZ2V := ⟨f92, [], ⟨[], [], sbf, bof⟩, [xZS, xZ8b, xZ5M, xZ8o, xZV], [false], none, 1, 1, fun _ _ => true, none⟩
theorem xZ7H : xZ7o.Ok prog := ⟨Is.of (by kernel_rfl) (by kernel_rfl), by kernel_rfl, xZc sb_ok bo_ok, trivial, trivial, fun _ => by kernel_rfl⟩
theorem xZ7u (N : Nat) : xZ2V.Ok prog N := xZ7H.give tb_ok hm N N ⟨xZ1K N, xZcj N, xZ9S N, xZdQ N, xZ1Y N, trivial⟩ fun a r s h => by
  have l0 := s.loop 0 xZ1D (xZ3P N) N fun next0 h0 => by
    exact fun c v => s.seg 0 xZ1D [(0, .of xZ1D next0)] ⟨h0, trivial⟩ (by kernel_rfl) (by kernel_rfl)
  exact s.main [(0, .of xZ1D (xZ6c N))] ⟨l0, trivial⟩ (.trans (by kernel_rfl) h)
end
end
section
open Go.Proofs.Tryz
set_option maxRecDepth 1000000
noncomputable section
noncomputable def xZ6B : Fn xZ2O := ⟨f126, [], ⟨[], [], sbf, bof⟩, [xZ8b], [true, true], none, 1, 1, fun _ _ => true, none⟩
theorem xZ6V : xZ6B.Ok prog := ⟨Is.of (by kernel_rfl) (by kernel_rfl), by kernel_rfl, xZc sb_ok bo_ok, trivial, trivial, fun _ => by kernel_rfl⟩
theorem xZ6A (N : Nat) : xZ2O.Ok prog N := xZ6V.give tb_ok hm N N ⟨xZcj N, trivial⟩ fun a r s h => by
  exact s.main [] trivial (.trans (by kernel_rfl) h)
noncomputable def xZdv : Fn xZ8f := ⟨f127, [], ⟨[], [], sbf, bof⟩, [], [true], none, 0, 0, fun _ _ => true, none⟩
theorem xZdx : xZdv.Ok prog := ⟨Is.of (by kernel_rfl) (by kernel_rfl), by kernel_rfl, xZc sb_ok bo_ok, trivial, trivial, fun _ => by kernel_rfl⟩
theorem xZdi (N : Nat) : xZ8f.Ok prog N := xZdx.give tb_ok hm N N trivial fun a r s h => by
  exact s.main [] trivial (.trans (by kernel_rfl) h)
noncomputable def xZ7K : Fn xZ2Y := ⟨f93, [], ⟨[(52, 2), (61, 2), (86, 2)], [], sbf, bof⟩, [xZ5z, xZ2O, xZS, xZ8f, xZV], [false], none, 1, 1, fun _ _ => true, none⟩
theorem xZ7w : xZ7K.Ok prog := ⟨Is.of (by kernel_rfl) (by kernel_rfl), by kernel_rfl, xZc sb_ok bo_ok, trivial, trivial, fun _ => by kernel_rfl⟩
theorem xZ7t (N : Nat) : xZ2Y.Ok prog N := xZ7w.give tb_ok hm N N ⟨xZ7G N, xZ6A N, xZ1K N, xZdi N, xZ1Y N, trivial⟩ fun a r s h => by
  have l0 := s.loop 0 xZ1E (xZ3J N) N fun next0 h0 => by
    exact fun c v => s.seg 0 xZ1E [(0, .of xZ1E next0)] ⟨h0, trivial⟩ (by kernel_rfl) (by kernel_rfl)
  exact s.main [(0, .of xZ1E (xZ65 N))] ⟨l0, trivial⟩ (.trans (by kernel_rfl) h)
noncomputable def xZ8Q : Fn xZ3e := ⟨f94, [], ⟨[], [], sbf, bof⟩, [xZ2D, xZV], [false], none, 1, 1, fun _ _ => true, none⟩
theorem xZ8E : xZ8Q.Ok prog := ⟨Is.of (by kernel_rfl) (by kernel_rfl), by kernel_rfl, xZc sb_ok bo_ok, trivial, trivial, fun _ => by kernel_rfl⟩
theorem xZ8D (N : Nat) : xZ3e.Ok prog N := xZ8E.give tb_ok hm N N ⟨xZ4A N, xZ1Y N, trivial⟩ fun a r s h => by
  exact s.main [] trivial (.trans (by kernel_rfl) h)
noncomputable def xZ8n : Fn xZ35 := ⟨f51, [], ⟨[], [], sbf, bof⟩, [xZ9g, xZS, xZ3f, xZ7j, xZ32, xZ2V, xZ2Y, xZ3e, xZ2D], [false], none, 1, 1, fun _ _ => true, none⟩
theorem xZ8s : xZ8n.Ok prog := ⟨Is.of (by kernel_rfl) (by kernel_rfl), by kernel_rfl, xZc sb_ok bo_ok, trivial, trivial, fun _ => by kernel_rfl⟩
theorem xZ81 (N : Nat) : xZ35.Ok prog N := xZ8s.give tb_ok hm N N ⟨xZcX N, xZ1K N, xZ8B N, xZb8 N, xZ7k N, xZ7u N, xZ7t N, xZ8D N, xZ4A N, trivial⟩ fun a r s h => by
  exact s.main [] trivial (.trans (by kernel_rfl) h)
noncomputable def xZii : Fn xZct := ⟨f21, [], ⟨[], [], sbf, bof⟩, [xZ5z, xZ35], [true, false], none, 0, 0, fun _ _ => true, none⟩
theorem xZiP : xZii.Ok prog := ⟨Is.of (by kernel_rfl) (by kernel_rfl), by kernel_rfl, xZc sb_ok bo_ok, trivial, trivial, fun _ => by kernel_rfl⟩
theorem xZi3 (N : Nat) : xZct.Ok prog N := xZiP.give tb_ok hm N N ⟨xZ7G N, xZ81 N, trivial⟩ fun a r s h => by
  have l0 := s.loop 0 xZ8q (xZcu N) N fun next0 h0 => by
    exact fun c v => s.seg 0 xZ8q [(0, .of xZ8q next0)] ⟨h0, trivial⟩ (by kernel_rfl) (by kernel_rfl)
  exact s.main [(0, .of xZ8q (xZfe N))] ⟨l0, trivial⟩ (.trans (by kernel_rfl) h)
noncomputable def xZ6W : Fn xZD := ⟨f97, [], ⟨[], [], sbf, bof⟩, [], [true], none, 1, 0, fun _ _ => true, none⟩
theorem xZ6K : xZ6W.Ok prog := ⟨Is.of (by kernel_rfl) (by kernel_rfl), by kernel_rfl, xZc sb_ok bo_ok, trivial, trivial, fun _ => by kernel_rfl⟩
theorem xZ16 (N : Nat) : xZD.Ok prog N := xZ6K.give tb_ok hm N N trivial fun a r s h => by
  exact s.main [] trivial (.trans (by kernel_rfl) h)
noncomputable def xZ7s : Fn xZl := ⟨f56, [], ⟨[], [], sbf, bof⟩, [xZD], [true], none, 1, 0, fun _ _ => true, none⟩
theorem xZ7x : xZ7s.Ok prog := ⟨Is.of (by kernel_rfl) (by kernel_rfl), by kernel_rfl, xZc sb_ok bo_ok, trivial, trivial, fun _ => by kernel_rfl⟩
theorem xZr (N : Nat) : xZl.Ok prog N := xZ7x.give tb_ok hm N N ⟨xZ16 N, trivial⟩ fun a r s h => by
  exact s.main [] trivial (.trans (by kernel_rfl) h)
noncomputable def xZc5 : Fn xZ4F := ⟨f98, [], ⟨[], [], sbf, bof⟩, [], [], none, 0, 0, fun _ _ => true, none⟩
theorem xZbT : xZc5.Ok prog := ⟨Is.of (by kernel_rfl) (by kernel_rfl), by kernel_rfl, xZc sb_ok bo_ok, trivial, trivial, fun _ => by kernel_rfl⟩
theorem xZ9e (N : Nat) : xZ4F.Ok prog N := xZbT.give tb_ok hm N N trivial fun a r s h => by
  exact s.main [] trivial (.trans (by kernel_rfl) h)
noncomputable def xZbX : Fn xZ4t := ⟨f98, [], ⟨[], [], sbf, bof⟩, [], [], none, 0, 0, fun _ _ => true, none⟩
theorem xZcd : xZbX.Ok prog := ⟨Is.of (by kernel_rfl) (by kernel_rfl), by kernel_rfl, xZc sb_ok bo_ok, trivial, trivial, fun _ => by kernel_rfl⟩
theorem xZ9d (N : Nat) : xZ4t.Ok prog N := xZcd.give tb_ok hm N N trivial fun a r s h => by
  exact s.main [] trivial (.trans (by kernel_rfl) h)
noncomputable def xZ6I : Fn xZt := ⟨f59, [], ⟨[], [], sbf, bof⟩, [xZ5z, xZ4F, xZ4t], [], none, 1, 0, fun _ _ => true, none⟩
theorem xZ7b : xZ6I.Ok prog := ⟨Is.of (by kernel_rfl) (by kernel_rfl), by kernel_rfl, xZc sb_ok bo_ok, trivial, trivial, fun _ => by kernel_rfl⟩
theorem xZO (N : Nat) : xZt.Ok prog N := xZ7b.give tb_ok hm N N ⟨xZ7G N, xZ9e N, xZ9d N, trivial⟩ fun a r s h => by
  exact s.main [] trivial (.trans (by kernel_rfl) h)
noncomputable def xZ7d : Fn xZ1T := ⟨f57, [], ⟨[], [], sbf, bof⟩, [xZt], [true], none, 1, 0, fun _ _ => true, none⟩
theorem xZ78 : xZ7d.Ok prog := ⟨Is.of (by kernel_rfl) (by kernel_rfl), by kernel_rfl, xZc sb_ok bo_ok, trivial, trivial, fun _ => by kernel_rfl⟩
theorem xZ3S (N : Nat) : xZ1T.Ok prog N := xZ78.give tb_ok hm N N ⟨xZO N, trivial⟩ fun a r s h => by
  exact s.main [] trivial (.trans (by kernel_rfl) h)
noncomputable def xZ75 : Fn xZQ := ⟨f54, [], ⟨[], [], sbf, bof⟩, [xZl, xZt], [], none, 1, 0, fun _ _ => true, none⟩
theorem xZ6O : xZ75.Ok prog := ⟨Is.of (by kernel_rfl) (by kernel_rfl), by kernel_rfl, xZc sb_ok bo_ok, trivial, trivial, fun _ => by kernel_rfl⟩
theorem xZ1S (N : Nat) : xZQ.Ok prog N := xZ6O.give tb_ok hm N N ⟨xZr N, xZO N, trivial⟩ fun a r s h => by
  exact s.main [] trivial (.trans (by kernel_rfl) h)
noncomputable def xZ60 : Fn xZz := ⟨f188, [], ⟨[], [], sbf, bof⟩, [], [true], none, 1, 0, fun _ _ => true, none⟩
theorem xZ63 : xZ60.Ok prog := ⟨Is.of (by kernel_rfl) (by kernel_rfl), by kernel_rfl, xZc sb_ok bo_ok, trivial, trivial, fun _ => by kernel_rfl⟩
theorem xZZ (N : Nat) : xZz.Ok prog N := xZ63.give tb_ok hm N N trivial fun a r s h => by
  exact s.main [] trivial (.trans (by kernel_rfl) h)
noncomputable def xZ5T : Fn xZ2i := ⟨f175, [], ⟨[], [], sbf, bof⟩, [], [true], none, 1, 0, fun _ _ => true, none⟩
theorem xZ5K : xZ5T.Ok prog := ⟨Is.of (by kernel_rfl) (by kernel_rfl), by kernel_rfl, xZc sb_ok bo_ok, trivial, trivial, fun _ => by kernel_rfl⟩
theorem xZ3w (N : Nat) : xZ2i.Ok prog N := xZ5K.give tb_ok hm N N trivial fun a r s h => by
  exact s.main [] trivial (.trans (by kernel_rfl) h)
noncomputable def xZ62 : Fn xZK := ⟨f195, [], ⟨[], [], sbf, bof⟩, [xZ2i], [], none, 1, 0, fun _ _ => true, none⟩
theorem xZ6f : xZ62.Ok prog := ⟨Is.of (by kernel_rfl) (by kernel_rfl), by kernel_rfl, xZc sb_ok bo_ok, trivial, trivial, fun _ => by kernel_rfl⟩
theorem xZ1y (N : Nat) : xZK.Ok prog N := xZ6f.give tb_ok hm N N ⟨xZ3w N, trivial⟩ fun a r s h => by
  exact s.main [] trivial (.trans (by kernel_rfl) h)
noncomputable def xZ5r : Fn xZ27 := ⟨f194, [], ⟨[], [], sbf, bof⟩, [xZz, xZK], [], none, 1, 0, fun _ _ => true, none⟩
theorem xZ5n : xZ5r.Ok prog := ⟨Is.of (by kernel_rfl) (by kernel_rfl), by kernel_rfl, xZc sb_ok bo_ok, trivial, trivial, fun _ => by kernel_rfl⟩
theorem xZ5o (N : Nat) : xZ27.Ok prog N := xZ5n.give tb_ok hm N N ⟨xZZ N, xZ1y N, trivial⟩ fun a r s h => by
  exact s.main [] trivial (.trans (by kernel_rfl) h)
noncomputable def xZ6S : Fn xZE := ⟨f184, [], ⟨[], [], sbf, bof⟩, [xZz], [true], none, 1, 0, fun _ _ => true, none⟩
theorem xZ6Z : xZ6S.Ok prog := ⟨Is.of (by kernel_rfl) (by kernel_rfl), by kernel_rfl, xZc sb_ok bo_ok, trivial, trivial, fun _ => by kernel_rfl⟩
theorem xZ1a (N : Nat) : xZE.Ok prog N := xZ6Z.give tb_ok hm N N ⟨xZZ N, trivial⟩ fun a r s h => by
  exact s.main [] trivial (.trans (by kernel_rfl) h)
end
end
section
open Go.Proofs.Tryz
set_option maxRecDepth 1000000
noncomputable section
noncomputable def xZ7n : Fn xZ2W := ⟨f189, [], ⟨[], [], sbf, bof⟩, [xZ3F], [true], none, 0, 0, fun _ _ => true, none⟩
theorem xZ7I : xZ7n.Ok prog := ⟨Is.of (by kernel_rfl) (by kernel_rfl), by kernel_rfl, xZc sb_ok bo_ok, trivial, trivial, fun _ => by kernel_rfl⟩
theorem xZ7r (N : Nat) : xZ2W.Ok prog N := xZ7I.give tb_ok hm N N ⟨xZ5V N, trivial⟩ fun a r s h => by
  have l2 := s.loop 2 xZ1x (xZ3Q N) N fun next2 h2 => by
    exact fun c v => s.seg 2 xZ1x [(2, .of xZ1x next2)] ⟨h2, trivial⟩ (by kernel_rfl) (by kernel_rfl)
  have l0 := s.loop 0 xZ1B (xZ3H N) N fun next0 h0 => by
    exact fun c v => s.seg 0 xZ1B [(0, .of xZ1B next0), (2, .of xZ1x (xZ6g N))] ⟨h0, l2, trivial⟩ (by kernel_rfl) (by kernel_rfl)
  exact s.main [(0, .of xZ1B (xZ6d N))] ⟨l0, trivial⟩ (.trans (by kernel_rfl) h)
noncomputable def xZci : Fn xZ2U := ⟨f185, [], ⟨[(6, 3)], [], sbf, bof⟩, [xZ2W], [true], none, 0, 0, fun _ _ => true, none⟩
theorem xZcb : xZci.Ok prog := ⟨Is.of (by kernel_rfl) (by kernel_rfl), by kernel_rfl, xZc sb_ok bo_ok, trivial, trivial, fun _ => by kernel_rfl⟩
theorem xZ4w (N : Nat) : xZ2U.Ok prog N := xZcb.give tb_ok hm N N ⟨xZ7r N, trivial⟩ fun a r s h => by
  exact s.main [] trivial (.trans (by kernel_rfl) h)
noncomputable def xZ5Y : Fn xZ1F := ⟨f198, [], ⟨[], [], sbf, bof⟩, [xZz, xZK], [true], none, 1, 0, fun _ _ => true, none⟩
theorem xZ6a : xZ5Y.Ok prog := ⟨Is.of (by kernel_rfl) (by kernel_rfl), by kernel_rfl, xZc sb_ok bo_ok, trivial, trivial, fun _ => by kernel_rfl⟩
theorem xZ3G (N : Nat) : xZ1F.Ok prog N := xZ6a.give tb_ok hm N N ⟨xZZ N, xZ1y N, trivial⟩ fun a r s h => by
  exact s.main [] trivial (.trans (by kernel_rfl) h)
noncomputable def xZ61 : Fn xZ2t := ⟨f202, [], ⟨[(24, 3), (40, 3), (51, 3), (54, 3)], [], sbf, bof⟩, [xZE, xZz, xZK, xZ1F], [true], none, 1, 0, fun _ _ => true, none⟩
theorem xZ5W : xZ61.Ok prog := ⟨Is.of (by kernel_rfl) (by kernel_rfl), by kernel_rfl, xZc sb_ok bo_ok, trivial, trivial, fun _ => by kernel_rfl⟩
theorem xZ67 (N : Nat) : xZ2t.Ok prog N := xZ5W.give tb_ok hm N N ⟨xZ1a N, xZZ N, xZ1y N, xZ3G N, trivial⟩ fun a r s h => by
  exact s.main [] trivial (.trans (by kernel_rfl) h)
noncomputable def xZ6N : Fn xZ2K := ⟨f196, [], ⟨[(14, 4), (23, 4)], [], sbf, bof⟩, [xZ2t, xZE, xZ2U], [true], none, 1, 0, fun _ _ => true, none⟩
theorem xZ6R : xZ6N.Ok prog := ⟨Is.of (by kernel_rfl) (by kernel_rfl), by kernel_rfl, xZc sb_ok bo_ok, trivial, trivial, fun _ => by kernel_rfl⟩
theorem xZ6F (N : Nat) : xZ2K.Ok prog N := xZ6R.give tb_ok hm N N ⟨xZ67 N, xZ1a N, xZ4w N, trivial⟩ fun a r s h => by
  have l0 := s.loop 0 xZ1u (xZ3u N) N fun next0 h0 => by
    exact fun c v => s.seg 0 xZ1u [(0, .of xZ1u next0)] ⟨h0, trivial⟩ (by kernel_rfl) (by kernel_rfl)
  exact s.main [(0, .of xZ1u (xZ5F N))] ⟨l0, trivial⟩ (.trans (by kernel_rfl) h)
noncomputable def xZdX : Fn xZ4q := ⟨f143, [], ⟨[], [], sbf, bof⟩, [], [true], none, 0, 0, fun _ _ => true, none⟩
theorem xZdE : xZdX.Ok prog := ⟨Is.of (by kernel_rfl) (by kernel_rfl), by kernel_rfl, xZc sb_ok bo_ok, trivial, trivial, fun _ => by kernel_rfl⟩
theorem xZ8g (N : Nat) : xZ4q.Ok prog N := xZdE.give tb_ok hm N N trivial fun a r s h => by
  exact s.main [] trivial (.trans (by kernel_rfl) h)
noncomputable def xZfX : Fn xZ9T := ⟨f197, [], ⟨[], [], sbf, bof⟩, [xZ4q], [true], none, 0, 0, fun _ _ => true, none⟩
theorem xZfH : xZfX.Ok prog := ⟨Is.of (by kernel_rfl) (by kernel_rfl), by kernel_rfl, xZc sb_ok bo_ok, trivial, trivial, fun _ => by kernel_rfl⟩
theorem xZf4 (N : Nat) : xZ9T.Ok prog N := xZfH.give tb_ok hm N N ⟨xZ8g N, trivial⟩ fun a r s h => by
  have l0 := s.loop 0 xZ5i (xZae N) N fun next0 h0 => by
    exact fun c v => s.seg 0 xZ5i [(0, .of xZ5i next0)] ⟨h0, trivial⟩ (by kernel_rfl) (by kernel_rfl)
  exact s.main [(0, .of xZ5i (xZdc N))] ⟨l0, trivial⟩ (.trans (by kernel_rfl) h)
noncomputable def xZ7v : Fn xZ20 := ⟨f177, [], ⟨[(16, 4)], [], sbf, bof⟩, [xZ2I, xZE, xZ2U], [true], none, 1, 0, fun _ _ => true, none⟩
theorem xZ4i : xZ7v.Ok prog := ⟨Is.of (by kernel_rfl) (by kernel_rfl), by kernel_rfl, xZc sb_ok bo_ok, trivial, trivial, fun _ => by kernel_rfl⟩
noncomputable def xZ77 : Fn xZ2I := ⟨f183, [], ⟨[(16, 4)], [], sbf, bof⟩, [xZ1H, xZE, xZ2U], [true], none, 1, 0, fun _ _ => true, none⟩
theorem xZ3W : xZ77.Ok prog := ⟨Is.of (by kernel_rfl) (by kernel_rfl), by kernel_rfl, xZc sb_ok bo_ok, trivial, trivial, fun _ => by kernel_rfl⟩
noncomputable def xZ6h : Fn xZ1H := ⟨f187, [], ⟨[(18, 4), (49, 4)], [], sbf, bof⟩, [xZ27, xZE, xZ1H, xZ2U, xZ20, xZK, xZ2K, xZz, xZ9T, xZ1F], [true], none, 1, 0, fun _ _ => true, none⟩
theorem xZ3M : xZ6h.Ok prog := ⟨Is.of (by kernel_rfl) (by kernel_rfl), by kernel_rfl, xZc sb_ok bo_ok, trivial, trivial, fun _ => by kernel_rfl⟩
theorem xZ3R : ∀ N, xZ20.Ok prog N ∧ xZ2I.Ok prog N ∧ xZ1H.Ok prog N
  | 0 => ⟨⟨xZ4i.is.enters, fun a r h => by (have h : none = some r := h; cases h)⟩, ⟨xZ3W.is.enters, fun a r h => by (have h : none = some r := h; cases h)⟩, ⟨xZ3M.is.enters, fun a r h => by (have h : none = some r := h; cases h)⟩⟩
  | N + 1 => by
    obtain ⟨h_predtext_parser_or_v927, h_predtext_parser_and_v927, h_predtext_parser_part_v927⟩ := xZ3R N
    refine ⟨?_, ?_, ?_⟩
    · exact xZ4i.give tb_ok hm N (N + 1) ⟨h_predtext_parser_and_v927, xZ1a N, xZ4w N, trivial⟩ fun a r s h => by
        have l0 := s.loop 0 xZ1C (xZ3N N) N fun next0 h0 => by
          exact fun c v => s.seg 0 xZ1C [(0, .of xZ1C next0)] ⟨h0, trivial⟩ (by kernel_rfl) (by kernel_rfl)
        exact s.main [(0, .of xZ1C (xZ66 N))] ⟨l0, trivial⟩ (.trans (by kernel_rfl) h)
    · exact xZ3W.give tb_ok hm N (N + 1) ⟨h_predtext_parser_part_v927, xZ1a N, xZ4w N, trivial⟩ fun a r s h => by
        have l0 := s.loop 0 xZ1l (xZ3p N) N fun next0 h0 => by
          exact fun c v => s.seg 0 xZ1l [(0, .of xZ1l next0)] ⟨h0, trivial⟩ (by kernel_rfl) (by kernel_rfl)
        exact s.main [(0, .of xZ1l (xZ5S N))] ⟨l0, trivial⟩ (.trans (by kernel_rfl) h)
    · exact xZ3M.give tb_ok hm N (N + 1) ⟨xZ5o N, xZ1a N, h_predtext_parser_part_v927, xZ4w N, h_predtext_parser_or_v927, xZ1y N, xZ6F N, xZZ N, xZf4 N, xZ3G N, trivial⟩ fun a r s h => by
        exact s.main [] trivial (.trans (by kernel_rfl) h)
theorem xZ7C (N : Nat) : xZ20.Ok prog N := (xZ3R N).1
noncomputable def xZaM : Fn xZ4S := ⟨f155, [], ⟨[], [], sbf, bof⟩, [], [true], none, 0, 0, fun _ _ => true, none⟩
theorem xZaR : xZaM.Ok prog := ⟨Is.of (by kernel_rfl) (by kernel_rfl), by kernel_rfl, xZc sb_ok bo_ok, trivial, trivial, fun _ => by kernel_rfl⟩
theorem xZaP (N : Nat) : xZ4S.Ok prog N := xZaR.give tb_ok hm N N trivial fun a r s h => by
  exact s.main [] trivial (.trans (by kernel_rfl) h)
noncomputable def xZcx : Fn xZ4X := ⟨f82, [], ⟨[], [], sbf, bof⟩, [], [true], none, 0, 0, fun _ _ => true, none⟩
theorem xZcE : xZcx.Ok prog := ⟨Is.of (by kernel_rfl) (by kernel_rfl), by kernel_rfl, xZc sb_ok bo_ok, trivial, trivial, fun _ => by kernel_rfl⟩
theorem xZ9v (N : Nat) : xZ4X.Ok prog N := xZcE.give tb_ok hm N N trivial fun a r s h => by
  exact s.main [] trivial (.trans (by kernel_rfl) h)
noncomputable def xZex : Fn xZ97 := ⟨f84, [], ⟨[], [], sbf, bof⟩, [xZ4X], [true], none, 0, 0, fun _ _ => true, none⟩
theorem xZec : xZex.Ok prog := ⟨Is.of (by kernel_rfl) (by kernel_rfl), by kernel_rfl, xZc sb_ok bo_ok, trivial, trivial, fun _ => by kernel_rfl⟩
theorem xZes (N : Nat) : xZ97.Ok prog N := xZec.give tb_ok hm N N ⟨xZ9v N, trivial⟩ fun a r s h => by
  exact s.main [] trivial (.trans (by kernel_rfl) h)
noncomputable def xZeP : Fn xZ52 := ⟨f48, [], ⟨[], [], sbf, bof⟩, [xZ4X, xZ45, xZ97], [true], none, 0, 0, fun _ _ => true, none⟩
theorem xZeY : xZeP.Ok prog := ⟨Is.of (by kernel_rfl) (by kernel_rfl), by kernel_rfl, xZc sb_ok bo_ok, trivial, trivial, fun _ => by kernel_rfl⟩
theorem xZ90 (N : Nat) : xZ52.Ok prog N := xZeY.give tb_ok hm N N ⟨xZ9v N, xZ8y N, xZes N, trivial⟩ fun a r s h => by
  have l0 := s.loop 0 xZ4W (xZ9u N) N fun next0 h0 => by
    exact fun c v => s.seg 0 xZ4W [(0, .of xZ4W next0)] ⟨h0, trivial⟩ (by kernel_rfl) (by kernel_rfl)
  exact s.main [(0, .of xZ4W (xZcI N))] ⟨l0, trivial⟩ (.trans (by kernel_rfl) h)
end
end
section
open Go.Proofs.Tryz
set_option maxRecDepth 1000000
noncomputable section
noncomputable def xZfq : Fn xZ9L := ⟨f144, [], ⟨[], [], sbf, bof⟩, [], [false], none, 0, 0, fun _ _ => true, none⟩
theorem xZfK : xZfq.Ok prog := ⟨Is.of (by kernel_rfl) (by kernel_rfl), by kernel_rfl, xZc sb_ok bo_ok, trivial, trivial, fun _ => by kernel_rfl⟩
theorem xZfB (N : Nat) : xZ9L.Ok prog N := xZfK.give tb_ok hm N N trivial fun a r s h => by
  exact s.main [] trivial (.trans (by kernel_rfl) h)
noncomputable def xZ9R : Fn xZ4d := ⟨f237, [], ⟨[], [], sbf, bof⟩, [], [true], none, 0, 0, fun _ _ => true, none⟩
theorem xZa0 : xZ9R.Ok prog := ⟨Is.of (by kernel_rfl) (by kernel_rfl), by kernel_rfl, xZc sb_ok bo_ok, trivial, trivial, fun _ => by kernel_rfl⟩
theorem xZ9P (N : Nat) : xZ4d.Ok prog N := xZa0.give tb_ok hm N N trivial fun a r s h => by
  exact s.main [] trivial (.trans (by kernel_rfl) h)
noncomputable def xZaT : Fn xZ4O := ⟨f238, [], ⟨[], [], sbf, bof⟩, [], [true], none, 0, 0, fun _ _ => true, none⟩
theorem xZb1 : xZaT.Ok prog := ⟨Is.of (by kernel_rfl) (by kernel_rfl), by kernel_rfl, xZc sb_ok bo_ok, trivial, trivial, fun _ => by kernel_rfl⟩
theorem xZaS (N : Nat) : xZ4O.Ok prog N := xZb1.give tb_ok hm N N trivial fun a r s h => by
  exact s.main [] trivial (.trans (by kernel_rfl) h)
noncomputable def xZ9O : Fn xZ4c := ⟨f239, [], ⟨[], [], sbf, bof⟩, [], [true], none, 0, 0, fun _ _ => true, none⟩
theorem xZ9M : xZ9O.Ok prog := ⟨Is.of (by kernel_rfl) (by kernel_rfl), by kernel_rfl, xZc sb_ok bo_ok, trivial, trivial, fun _ => by kernel_rfl⟩
theorem xZa3 (N : Nat) : xZ4c.Ok prog N := xZ9M.give tb_ok hm N N trivial fun a r s h => by
  exact s.main [] trivial (.trans (by kernel_rfl) h)
noncomputable def xZai : Fn xZ4H := ⟨f240, [], ⟨[], [], sbf, bof⟩, [], [true], none, 0, 0, fun _ _ => true, none⟩
theorem xZar : xZai.Ok prog := ⟨Is.of (by kernel_rfl) (by kernel_rfl), by kernel_rfl, xZc sb_ok bo_ok, trivial, trivial, fun _ => by kernel_rfl⟩
theorem xZaD (N : Nat) : xZ4H.Ok prog N := xZar.give tb_ok hm N N trivial fun a r s h => by
  exact s.main [] trivial (.trans (by kernel_rfl) h)
noncomputable def xZe9 : Fn xZ6o := ⟨f112, [], ⟨[], [], sbf, bof⟩, [xZ9L, xZ4d, xZ4O, xZ5M, xZ4c, xZ4H], [true], none, 0, 0, fun _ _ => true, none⟩
theorem xZed : xZe9.Ok prog := ⟨Is.of (by kernel_rfl) (by kernel_rfl), by kernel_rfl, xZc sb_ok bo_ok, trivial, trivial, fun _ => by kernel_rfl⟩
theorem xZbm (N : Nat) : xZ6o.Ok prog N := xZed.give tb_ok hm N N ⟨xZfB N, xZ9P N, xZaS N, xZ9S N, xZa3 N, xZaD N, trivial⟩ fun a r s h => by
  exact s.main [] trivial (.trans (by kernel_rfl) h)
noncomputable def xZby : Fn xZ5a := ⟨f157, [], ⟨[], [], sbf, bof⟩, [xZ4q, xZ52, xZ6o], [true], none, 0, 0, fun _ _ => true, none⟩
theorem xZbt : xZby.Ok prog := ⟨Is.of (by kernel_rfl) (by kernel_rfl), by kernel_rfl, xZc sb_ok bo_ok, trivial, trivial, fun _ => by kernel_rfl⟩
theorem xZbA (N : Nat) : xZ5a.Ok prog N := xZbt.give tb_ok hm N N ⟨xZ8g N, xZ90 N, xZbm N, trivial⟩ fun a r s h => by
  exact s.main [] trivial (.trans (by kernel_rfl) h)
noncomputable def xZdt : Fn xZ89 := ⟨f156, [], ⟨[], [], sbf, bof⟩, [xZ5a], [true], none, 0, 0, fun _ _ => true, none⟩
theorem xZdS : xZdt.Ok prog := ⟨Is.of (by kernel_rfl) (by kernel_rfl), by kernel_rfl, xZc sb_ok bo_ok, trivial, trivial, fun _ => by kernel_rfl⟩
theorem xZdR (N : Nat) : xZ89.Ok prog N := xZdS.give tb_ok hm N N ⟨xZbA N, trivial⟩ fun a r s h => by
  exact s.main [] trivial (.trans (by kernel_rfl) h)
noncomputable def xZdp : Fn xZ7W := ⟨f156, [], ⟨[], [], sbf, bof⟩, [xZ9c], [true], none, 0, 0, fun _ _ => true, none⟩
theorem xZdT : xZdp.Ok prog := ⟨Is.of (by kernel_rfl) (by kernel_rfl), by kernel_rfl, xZc sb_ok bo_ok, trivial, trivial, fun _ => by kernel_rfl⟩
theorem xZdW (N : Nat) : xZ7W.Ok prog N := xZdT.give tb_ok hm N N ⟨xZc8 N, trivial⟩ fun a r s h => by
  exact s.main [] trivial (.trans (by kernel_rfl) h)
noncomputable def xZgU : Fn xZaZ := ⟨f159, [], ⟨[], [], sbf, bof⟩, [], [true], none, 0, 0, fun _ _ => true, none⟩
theorem xZh1 : xZgU.Ok prog := ⟨Is.of (by kernel_rfl) (by kernel_rfl), by kernel_rfl, xZc sb_ok bo_ok, trivial, trivial, fun _ => by kernel_rfl⟩
theorem xZho (N : Nat) : xZaZ.Ok prog N := xZh1.give tb_ok hm N N trivial fun a r s h => by
  exact s.main [] trivial (.trans (by kernel_rfl) h)
noncomputable def xZcz : Fn xZ6T := ⟨f160, [], ⟨[], [], sbf, bof⟩, [], [true], none, 0, 0, fun _ _ => true, none⟩
theorem xZcP : xZcz.Ok prog := ⟨Is.of (by kernel_rfl) (by kernel_rfl), by kernel_rfl, xZc sb_ok bo_ok, trivial, trivial, fun _ => by kernel_rfl⟩
theorem xZcA (N : Nat) : xZ6T.Ok prog N := xZcP.give tb_ok hm N N trivial fun a r s h => by
  exact s.main [] trivial (.trans (by kernel_rfl) h)
noncomputable def xZ8v : Fn xZ1n := ⟨f140, [], ⟨[], [], sbf, bof⟩, [xZ4S, xZ89, xZ7W, xZaZ, xZ6T, xZ1n], [true], none, 1, 0, fun _ _ => true, none⟩
theorem xZ4E : xZ8v.Ok prog := ⟨Is.of (by kernel_rfl) (by kernel_rfl), by kernel_rfl, xZc sb_ok bo_ok, trivial, trivial, fun _ => by kernel_rfl⟩
theorem xZ4j : ∀ N, xZ1n.Ok prog N
  | 0 => ⟨xZ4E.is.enters, fun a r h => by (have h : none = some r := h; cases h)⟩
  | N + 1 => by
    obtain h_pred_checker_tree_v739 := xZ4j N
    · exact xZ4E.give tb_ok hm N (N + 1) ⟨xZaP N, xZdR N, xZdW N, xZho N, xZcA N, h_pred_checker_tree_v739, trivial⟩ fun a r s h => by
        have l0 := s.loop 0 xZ1N (xZ41 N) N fun next0 h0 => by
          exact fun c v => s.seg 0 xZ1N [(0, .of xZ1N next0)] ⟨h0, trivial⟩ (by kernel_rfl) (by kernel_rfl)
        exact s.main [(0, .of xZ1N (xZ79 N))] ⟨l0, trivial⟩ (.trans (by kernel_rfl) h)
theorem xZ8h (N : Nat) : xZ1n.Ok prog N := (xZ4j N)
noncomputable def xZfL : Fn xZ7Q := ⟨f110, [], ⟨[], [], sbf, bof⟩, [xZ1n], [true], none, 0, 0, fun _ _ => true, none⟩
theorem xZfp : xZfL.Ok prog := ⟨Is.of (by kernel_rfl) (by kernel_rfl), by kernel_rfl, xZc sb_ok bo_ok, trivial, trivial, fun _ => by kernel_rfl⟩
theorem xZ9H (N : Nat) : xZ7Q.Ok prog N := xZfp.give tb_ok hm N N ⟨xZ8h N, trivial⟩ fun a r s h => by
  exact s.main [] trivial (.trans (by kernel_rfl) h)
end
end
end Go.Proofs.YtahklhniofiofaaGreatDoor.B
