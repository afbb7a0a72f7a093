/- lex.bits, walked. No premise beyond what each theorem says. -/
import Derived.Test.YtahklhniofiofaaGreatDoorDG2
import Derived.Shelf.Strings.BuilderK
import Derived.Test.YtahklhniofiofaaGreatDoorDA3
import Derived.WalkKit
import Derived.BigCall
import Derived.Laws.BytesString
import Derived.Laws.IdiomStrings
import Derived.Lib.SmallJoins
import Derived.Laws.Bits64b
import Derived.Lib.UnsafeStr
import Derived.Lib.OthersKept
import Derived.Deep.RegionHeld3
import Derived.LaidEql
import Derived.Stop.Asserts
import Derived.RowKitTokens
set_option linter.all false
set_option linter.unusedSimpArgs false
set_option linter.unusedVariables false
namespace Go.Proofs.YtahklhniofiofaaGreatDoor.D
open Go
section
open Go Go.Shelf Go.RowKit Go.Proofs.Tryz
set_option maxHeartbeats 1000000
set_option maxRecDepth 1000000
theorem hxS_len (u : Nat) : ∀ k, (hxS k u).length = k
  | 0 => rfl
  | k + 1 => by simp [hxS, hxS_len u k]
theorem and15 (q : Nat) (h : q < 18446744073709551616) : bits .and .u64 (q : Int) 15 = ((q % 16 : Nat) : Int) := by
  have := bits_and_u64_nat q 15 h (by decide)
  rw [show ((15 : Nat) : Int) = 15 from rfl] at this
  rw [this, show q &&& 15 = q % 16 from Nat.and_two_pow_sub_one_eq_mod q 4]
theorem lb_hex {k : Nat} (h : k < 16) : ({ data := #[48, 49, 50, 51, 52, 53, 54, 55, 56, 57, 97, 98, 99, 100, 101, 102] } : ByteArray)[k]'h = hexB k := by
  have : ∀ k : Fin 16, ({ data := #[48, 49, 50, 51, 52, 53, 54, 55, 56, 57, 97, 98, 99, 100, 101, 102] } : ByteArray)[k.1]'k.2 = hexB k.1 := by decide
  exact this ⟨k, h⟩
theorem lb_set {α : Type} (a x z : α) (r : List α) : ∀ j, (a :: (List.replicate (j + 1) z ++ r)).set (j + 1) x = a :: (List.replicate j z ++ x :: r)
  | 0 => rfl
  | j + 1 => by
    have := lb_set z x z r j
    simp only [List.replicate_succ, List.cons_append, List.set_cons_succ] at this ⊢
    rw [this]
theorem bits_walk (u : Nat) (hu : u < 18446744073709551616) (w : World) :
    Calls Tryz.prog 114 #[.int .u64 (u : Int)] w fun e w' => e = .returned (.string (bs (bitS u))) ∧ Below w.heap.size w w' := by
  go_enter Tryz.func114, Tryz.ntmps114
  go_wp2
  go_loopw [0, 4] (fun x i wr => ∃ j k : Nat, j + k = 16 ∧ x = .int .u64 ((u / 16 ^ k : Nat) : Int) ∧ i = .int .i64 j ∧ wr.heap[w.heap.size]? = some (.cells (Lib.byteCells (35 :: (List.replicate j 0 ++ hxS k u))).toArray 215 (0, 0)) ∧ Below w.heap.size w wr) (fun _ i _ => (intOf i).toNat)
  case atStart =>
    refine ⟨16, 0, rfl, by simp, rfl, ?_, (Below.refl _ w).alloc (Nat.le_refl _) _⟩
    rw [heap_alloc_new]
    rfl
  case round =>
    obtain ⟨j, k, hjk, rfl, rfl, hh, hb⟩ := hrel
    have hsz := hb.size
    have hlen : (Lib.byteCells (35 :: (List.replicate j 0 ++ hxS k u))).length = 17 := by rw [Lib.byteCells_length]; simp [hxS_len]; omega
    have hq' : u / 16 ^ k < 18446744073709551616 := Nat.lt_of_le_of_lt (Nat.div_le_self _ _) hu
    by_cases hj : j = 0
    · subst hj
      obtain rfl : k = 16 := by omega
      have hcv := fun (P : Program) (src dst e : TypeId) hs he hd => run_convert_bytes_back (P := P) wr src dst e ⟨w.heap.size, 0, none⟩ 17 (bitS u) hs he hd (fun i hi => by
        have ea : (⟨w.heap.size, 0, none⟩ : Addr).add i = ⟨w.heap.size, i, none⟩ := by simp [Addr.add]; exact fun h => h.symm
        rw [ea, Lib.cell_of_heap hh, List.getElem?_toArray]
        show (Lib.byteCells (bitS u))[i]? = _
        simp [Lib.byteCells, List.getElem?_eq_getElem hi])
      generalize u / 16 ^ 16 = q
      have hcv' := hcv Tryz.prog 188 9 5 (by kernel_rfl) (by kernel_rfl) (by kernel_rfl)
      rw [show (bitS u).length = 17 by simp [bitS, hxS_len]] at hcv'
      clear hcv
      go_wp2
      go_ret
      exact ⟨rfl, hb⟩
    · obtain ⟨j, rfl⟩ : ∃ j', j = j' + 1 := ⟨j - 1, by omega⟩
      have h1 : (0 : Int) < ((j + 1 : Nat) : Int) := by omega
      have h2 : ((j + 1 : Nat) : Int) < 17 := by omega
      have h3 : j + 1 < 17 := by omega
      have c1 : ∃ v, wr.cell? ⟨w.heap.size, j + 1, none⟩ = some v := by
        rw [Lib.cell_of_heap hh]; exact ⟨(Lib.byteCells (35 :: (List.replicate (j + 1) 0 ++ hxS k u)))[j + 1]'(by omega), by simp only [List.getElem?_toArray]; exact List.getElem?_eq_getElem _⟩
      obtain ⟨v0, c1⟩ := c1
      have c2 : wr.frozen? ⟨w.heap.size, j + 1, none⟩ = false := Lib.frozen_of_heap hh (j + 1)
      have hbl := fun v => Joins.block_setCell (i := j + 1) hh v
      have hdd : u / 16 ^ k / 16 = u / 16 ^ (k + 1) := by rw [Nat.div_div_eq_div_mul, Nat.pow_succ]
      have hhx : hexB (u / 16 ^ k % 16) :: hxS k u = hxS (k + 1) u := rfl
      generalize u / 16 ^ k = q at *
      have hb15 := and15 q hq'
      have hk1 : q % 16 < 16 := by omega
      go_wp2
      refine ⟨⟨j, k + 1, by omega, by rw [← hdd]; simp, rfl, ?_, hb.setCell (p := ⟨w.heap.size, j + 1, none⟩) (Nat.le_refl _) _⟩, by simp only [intOf]; omega⟩
      rw [hbl, lb_hex hk1, ← hhx, ← lb_set 35 (hexB (q % 16)) 0 (hxS k u) j, List.setIfInBounds_toArray]
      simp only [Lib.byteCells, List.map_set]
theorem c_lex_bits (N : Nat) : C_lex_bits.Ok prog N := by
  refine ⟨⟨Tryz.f114, Tryz.func114, by kernel_rfl, by kernel_rfl⟩, fun a r h => ?_⟩
  have h : s_lex_bits N a.1 = some r := h
  unfold s_lex_bits at h
  obtain ⟨h1, h2⟩ := gd_some h
  obtain rfl := Option.some.inj h2
  intro M S w vs hh _ hsz hrep
  obtain ⟨v, rfl⟩ : ∃ v, vs = #[v] := by
    match vs, hsz with
    | ⟨[v]⟩, _ => exact ⟨v, rfl⟩
  have h0 : v = .int .u64 a.1 := VRep.v_eq (hrep 0 (Nat.zero_lt_one))
  subst h0
  obtain ⟨k1, k2⟩ := (Bool.and_eq_true _ _).mp h1
  obtain ⟨u, hu⟩ : ∃ u : Nat, a.1 = (u : Int) := ⟨a.1.toNat, by have := leB_iff.1 k1; omega⟩
  have k3 : a.1 < 18446744073709551616 := ltB_iff.1 k2
  rw [hu] at k3 ⊢
  refine (bits_walk u (by omega) w).mono ?_
  rintro e w' ⟨rfl, hb⟩
  have hg : Grew w w' := ⟨hb.os, hb.tape, hb.output, hb.size, hb.block⟩
  exact ⟨M, S, .data (.v _), hh.grew hg, .grew hh hg⟩
end
section
open Go Go.Shelf Go.RowKit Go.Proofs.Tryz
set_option maxHeartbeats 1000000
set_option maxRecDepth 1000000
theorem lx_size (x : List UInt8) : (bs x).size = x.length := by simp [bs, ByteArray.size]
theorem lx_one (x : List UInt8) (c : UInt8) : Lib.byteCells x ++ [Value.int .u8 (c.toNat : Int)] = Lib.byteCells (x ++ [c]) := by rw [Lib.byteCells_append]; rfl
theorem lx_le1 (c : UInt8) : (txC c).length ≤ 3 := by unfold txC; split
                                                      · decide
                                                      · split <;> simp
theorem lx_le (l : List UInt8) : (l.flatMap txC).length ≤ 3 * l.length := by
  induction l with
  | nil => exact Nat.zero_le _
  | cons c l ih => have := lx_le1 c; simp only [List.flatMap_cons, List.length_append, List.length_cons]; omega
theorem txC_eq (c : UInt8) : txC c = if c.toNat = 39 then [39, 39] else if c.toNat < 32 ∨ 126 < c.toNat ∨ c.toNat = 92 then [92, hexB (c.toNat / 16), hexB (c.toNat % 16)] else [c] := by
  unfold txC
  simp only [UInt8.lt_iff_toNat_lt, ← UInt8.toNat_inj]
  rfl
theorem lx_hex {k : Nat} (h : k < 16) : ({ data := #[48, 49, 50, 51, 52, 53, 54, 55, 56, 57, 97, 98, 99, 100, 101, 102] } : ByteArray)[k]'h = hexB k := by
  have : ∀ k : Fin 16, ({ data := #[48, 49, 50, 51, 52, 53, 54, 55, 56, 57, 97, 98, 99, 100, 101, 102] } : ByteArray)[k.1]'k.2 = hexB k.1 := by decide
  exact this ⟨k, h⟩
theorem lx_write {w wr : World} {x : List UInt8} (v : Int) (hI : Lib.IsBuilderF 218 5 w.heap.size w.heap.size (Lib.byteCells x) wr) (hb : Below w.heap.size w wr) (hq : x.length ≤ 100000000000) :
    Calls Tryz.prog 145 #[.pointer (some ⟨w.heap.size, 0, none⟩), .int .u8 v] wr fun e W => e = .returned .nilIface ∧ (∀ c : UInt8, v = (c.toNat : Int) → Lib.IsBuilderF 218 5 w.heap.size w.heap.size (Lib.byteCells (x ++ [c])) W) ∧ Below w.heap.size w W := by
  refine (Any.Builder_WriteByte_k lays167 bextra w.heap.size w.heap.size _ v _ hI (by rw [Lib.byteCells_length]; omega) hb.size).mono ?_
  rintro e W ⟨rfl, h, b, _⟩
  refine ⟨rfl, fun c hc => Or.inr ?_, hb.trans b⟩
  subst hc
  rw [← lx_one]; exact h
theorem lx_walk (l : List UInt8) (w : World) (hlen : l.length ≤ 10000000000) :
    Calls Tryz.prog 115 #[.string (bs l)] w fun e w' => e = .returned (.string (bs (txS l))) ∧ Below w.heap.size w w' := by
  have hat : ∀ pre c rest, l = pre ++ c :: rest → ∃ h : pre.length < (bs l).size, (bs l)[pre.length]'h = c := fun pre c rest h => by
    subst h
    refine ⟨by rw [lx_size]; simp, ?_⟩
    exact (by simp : (pre ++ c :: rest).toArray[pre.length]'(by simp) = c)
  have hn' : l.length = (bs l).size := by rw [lx_size]
  obtain ⟨T, hT⟩ : ∃ T, T = txS l := ⟨_, rfl⟩
  rw [← hT]
  generalize bs l = B at *
  obtain ⟨n, hn⟩ : ∃ n, B.size = n := ⟨_, rfl⟩
  rw [hn] at hn'
  go_enter Tryz.func115, Tryz.ntmps115
  go_wp2_with (go_at_call 145; refine (lx_write (x := []) 39 (Lib.IsBuilderF.of (Lib.fresh_isBuilder 218 5 w)) ((Below.refl _ w).alloc (Nat.le_refl _) _) (by simp)).mono ?_)
  rintro e W0 ⟨rfl, h0, b0⟩
  have h0 := h0 39 rfl
  go_wp2
  go_loopw [9] (fun i wr => ∃ (pre rest : List UInt8), l = pre ++ rest ∧ i = .int .i64 pre.length ∧ Lib.IsBuilderF 218 5 w.heap.size w.heap.size (Lib.byteCells ([39] ++ pre.flatMap txC)) wr ∧ Below w.heap.size w wr) (fun i _ => n - (intOf i).toNat)
  case atStart => exact ⟨[], l, rfl, rfl, h0, b0⟩
  case round =>
    obtain ⟨pre, rest, hl, rfl, hI, hb⟩ := hrel
    have hsz := hb.size
    have htx := lx_le pre
    cases rest with
    | nil =>
      have hc : ¬ ((pre.length : Int) < (n : Int)) := by rw [← hn', hl]; simp
      rw [List.append_nil] at hl
      have hq : ([39] ++ pre.flatMap txC).length ≤ 100000000000 := by subst hl; simp only [List.length_append, List.length_cons, List.length_nil]; omega
      clear hlen hat htx
      subst hl
      go_wp2_with (first | (go_at_call 145; refine (lx_write 39 hI hb hq).mono ?_; rintro e W1 ⟨rfl, h1, b1⟩; have h1 := h1 39 rfl) | (go_at_call 147; refine (Any.Builder_String_any_k lays169 bextra w.heap.size w.heap.size _ _ h1 (by have := b1.size; omega)).mono ?_; rintro e W2 ⟨rfl, _, b2, _⟩))
      go_ret
      exact ⟨by rw [hT]; rfl, b1.trans b2⟩
    | cons c rest =>
      have hlp : pre.length < l.length := by rw [hl]; simp
      have hc : ((pre.length : Int) < (n : Int)) := by omega
      have hlt : pre.length < n := by omega
      obtain ⟨hx1, hx⟩ := hat pre c rest hl
      have hq : ([39] ++ pre.flatMap txC).length ≤ 100000000000 - 10 := by simp only [List.length_append, List.length_cons, List.length_nil]; omega
      clear hat
      have hq1 : ([39] ++ pre.flatMap txC).length ≤ 100000000000 := by omega
      have hq2 : (([39] ++ pre.flatMap txC) ++ [92]).length ≤ 100000000000 := by rw [List.length_append]; simp only [List.length_cons, List.length_nil]; omega
      have hq3 : ∀ d : UInt8, ((([39] ++ pre.flatMap txC) ++ [92]) ++ [d]).length ≤ 100000000000 := fun d => by rw [List.length_append, List.length_append]; simp only [List.length_cons, List.length_nil]; omega
      have h256 : c.toNat < 256 := c.toNat_lt
      have hk1 : c.toNat / 16 < 16 := by omega
      have hk2 : c.toNat % 16 < 16 := by omega
      go_wp2_with (first
        | (go_at_call 145; refine (lx_write _ hI hb hq1).mono ?_; rintro e W1 ⟨rfl, h1, b1⟩; first | have h1 := h1 92 rfl | have h1 := h1 c rfl)
        | (go_at_call 145; refine (lx_write _ h1 b1 hq2).mono ?_; rintro e W2 ⟨rfl, h2, b2⟩; have h2 := h2 _ rfl)
        | (go_at_call 145; refine (lx_write _ h2 b2 (hq3 _)).mono ?_; rintro e W3 ⟨rfl, h3, b3⟩; have h3 := h3 _ rfl)
        | (go_at_call 146; refine (Any.Builder_WriteString_k lays166 bextra w.heap.size w.heap.size _ _ _ hI (by rw [Lib.byteCells_length]; exact Nat.le_trans (Nat.add_le_add hq1 (Nat.le_refl _)) (by decide)) hsz).mono ?_; rintro e W1 ⟨rfl, h1, b1, _⟩))
      all_goals
        refine ⟨⟨pre ++ [c], rest, by rw [hl]; simp, by simp, ?_, by first | assumption | exact hb.trans (by assumption)⟩, by simp only [intOf]; omega⟩
        rw [show [39] ++ (pre ++ [c]).flatMap txC = ([39] ++ pre.flatMap txC) ++ txC c by simp, txC_eq]
        clear hT hl hn' hn hc hlt hlp hx hx1
        try simp only [beq_iff_eq, beq_eq_false_iff_ne, ne_eq] at *
        first
          | (rw [if_pos (by omega)]
             rw [show Lib.strCells { data := #[39, 39] } = Lib.byteCells [39, 39] from rfl, ← Lib.byteCells_append] at h1
             exact Or.inr h1)
          | (rw [if_neg (by omega), if_pos (by omega)]
             rw [lx_hex hk1, lx_hex hk2] at h3
             simpa only [List.append_assoc, List.cons_append, List.nil_append] using h3)
          | (rw [if_neg (by omega), if_neg (by omega)]; exact h1)
theorem c_lex_text (N : Nat) : C_lex_text.Ok prog N := by
  refine ⟨⟨Tryz.f115, Tryz.func115, by kernel_rfl, by kernel_rfl⟩, fun a r h => ?_⟩
  have h : s_lex_text N a.1 = some r := h
  unfold s_lex_text at h
  obtain ⟨h1, h2⟩ := gd_some h
  obtain rfl := Option.some.inj h2
  intro M S w vs hh _ hsz hrep
  obtain ⟨v, rfl⟩ : ∃ v, vs = #[v] := by
    match vs, hsz with
    | ⟨[v]⟩, _ => exact ⟨v, rfl⟩
  have h0 : v = .string (bs a.1) := VRep.v_eq (hrep 0 (Nat.zero_lt_one))
  subst h0
  refine (lx_walk a.1 w (Nat.le_of_ble_eq_true h1)).mono ?_
  rintro e w' ⟨rfl, hb⟩
  have hg : Grew w w' := ⟨hb.os, hb.tape, hb.output, hb.size, hb.block⟩
  exact ⟨M, S, .data (.v _), hh.grew hg, .grew hh hg⟩
end
section
open Go Go.RowKit Go.Extern.Stop Go.Stop Go.Extern Go.Proofs.Tryz
set_option maxHeartbeats 4000000
set_option maxRecDepth 1000000
theorem fa_valueOf27 (t : Addr) (w : World) : (ReflectliteValue.unpack (.iface 128 (.pointer (some t)))).run Tryz.prog w
    = .ok (.agg #[.pointer (some ⟨3, 128, none⟩), .pointer (some ⟨w.heap.size, 0, none⟩), .int .u64 150]) (w.alloc (.cells #[.pointer (some t)] 128)) := by kernel_rfl
theorem fa_type27 (a : Addr) (w : World) : (ReflectliteValue.methodAny (ReflectliteValue.valueError "reflectlite.Value.Type" 0) (fun t _ _ _ => ReflectliteType.toType t) #[.agg #[.pointer (some ⟨3, 128, none⟩), .pointer (some a), .int .u64 150]]).run Tryz.prog w
    = .ok (.iface 160 (.agg #[.pointer (some ⟨3, 128, none⟩)])) w := by kernel_rfl
theorem fa_methodKind (h : Value) (w : World) : (Go.method 397 160 (.agg #[h]) "Kind").run Tryz.prog w = .ok (217, h) w := by kernel_rfl
theorem fa_kind27 (w : World) : ((ReflectliteType.abiMethod fun t => (fun a : Nat => Value.int IntKind.u8 (a : Int)) <$> Rtype.kind t) #[.pointer (some ⟨3, 128, none⟩)]).run Tryz.prog w = .ok (.int .u8 22) w := by kernel_rfl
theorem fa_kind25 (w : World) : ((ReflectliteType.abiMethod fun t => (fun a : Nat => Value.int IntKind.u8 (a : Int)) <$> Rtype.kind t) #[.pointer (some ⟨3, 84, none⟩)]).run Tryz.prog w = .ok (.int .u8 22) w := by kernel_rfl
theorem fa_rlm (z : Sem Value) (f : TypeId → Addr → Nat → Nat → Sem Value) (v : Value) :
    ReflectliteValue.method z f #[v] = (do match ← ReflectliteValue.parts v with | none => z | some (t, a, fl) => f t a fl (fl % 32)) := rfl
theorem fa_parts27 (a : Addr) (w : World) : (ReflectliteValue.parts (.agg #[.pointer (some ⟨3, 128, none⟩), .pointer (some a), .int .u64 150])).run Tryz.prog w = .ok (some (128, a, 150)) w := by kernel_rfl
theorem fa_isNil27 (a p : Addr) (W : World) (ha : W.cell? a = some (.pointer (some p))) :
    (ReflectliteValue.method (ReflectliteValue.valueError "reflectlite.Value.IsNil" 0) ReflectliteValue.isNil #[.agg #[.pointer (some ⟨3, 128, none⟩), .pointer (some a), .int .u64 150]]).run Tryz.prog W = .ok (.bool false) W := by
  rw [fa_rlm]
  simp only [Sem.run_bind, fa_parts27, Result.andThen]
  simp [ReflectliteValue.isNil, loadVar, isAgg, underlying, Tryz.underlying128, ha, Result.andThen]
theorem fa_methodElem (h : Value) (w : World) : (Go.method 397 160 (.agg #[h]) "Elem").run Tryz.prog w = .ok (229, .agg #[h]) w := by kernel_rfl
theorem fa_methodImplements (h : Value) (w : World) : (Go.method 397 160 (.agg #[h]) "Implements").run Tryz.prog w = .ok (230, .agg #[h]) w := by kernel_rfl
theorem fa_methodAssignableTo (h : Value) (w : World) : (Go.method 397 160 (.agg #[h]) "AssignableTo").run Tryz.prog w = .ok (227, .agg #[h]) w := by kernel_rfl
theorem fa_elem27 (w : World) : (ReflectliteType.method ReflectliteType.elem #[.agg #[.pointer (some ⟨3, 128, none⟩)]]).run Tryz.prog w = .ok (.iface 160 (.agg #[.pointer (some ⟨3, 84, none⟩)])) w := by kernel_rfl
theorem fa_implements25 (w : World) : (ReflectliteType.relation "Implements" ReflectliteType.implements_ #[.agg #[.pointer (some ⟨3, 84, none⟩)], .iface 160 (.agg #[.pointer (some ⟨3, 27, none⟩)])]).run Tryz.prog w = .ok (.bool true) w := by kernel_rfl
theorem fa_typeOf25 (v : Value) (w : World) : (ReflectliteType.typeOf #[.iface 84 v]).run Tryz.prog w = .ok (.iface 160 (.agg #[.pointer (some ⟨3, 84, none⟩)])) w := by kernel_rfl
theorem fa_assignable25 (w : World) : (ReflectliteType.relation "AssignableTo" ReflectliteType.assignableTo #[.agg #[.pointer (some ⟨3, 84, none⟩)], .iface 160 (.agg #[.pointer (some ⟨3, 84, none⟩)])]).run Tryz.prog w = .ok (.bool true) w := by kernel_rfl
theorem fa_valueOf25 (e : Addr) (w : World) : (ReflectliteValue.unpack (.iface 84 (.pointer (some e)))).run Tryz.prog w
    = .ok (.agg #[.pointer (some ⟨3, 84, none⟩), .pointer (some ⟨w.heap.size, 0, none⟩), .int .u64 150]) (w.alloc (.cells #[.pointer (some e)] 84)) := by kernel_rfl
theorem fa_elemOf27 (w : World) : (Rtype.elem? 128).run Tryz.prog w = .ok (some 84) w := by kernel_rfl
theorem fa_mk25 (p : Addr) (w : World) : (ReflectliteValue.mk 84 p ReflectliteValue.flagAddr).run Tryz.prog w = .ok (.agg #[.pointer (some ⟨3, 84, none⟩), .pointer (some p), .int .u64 406]) w := by kernel_rfl
theorem fa_elemV27 (a p : Addr) (W : World) (ha : W.cell? a = some (.pointer (some p))) :
    (ReflectliteValue.method (ReflectliteValue.valueError "reflectlite.Value.Elem" 0) ReflectliteValue.elem #[.agg #[.pointer (some ⟨3, 128, none⟩), .pointer (some a), .int .u64 150]]).run Tryz.prog W
      = .ok (.agg #[.pointer (some ⟨3, 84, none⟩), .pointer (some p), .int .u64 406]) W := by
  rw [fa_rlm]
  simp only [Sem.run_bind, fa_parts27, Result.andThen]
  simp [ReflectliteValue.elem, loadVar, isAgg, underlying, Tryz.underlying128, ha, Result.andThen, fa_elemOf27, fa_mk25]
theorem fa_rls (v x : Value) : ReflectliteValue.set #[v, x] = (do
    let (some (dst, a, fl), some (src, b, _)) := (← ReflectliteValue.parts v, ← ReflectliteValue.parts x)
      | unsupported (.noEntry "extern/(internal/reflectlite.Value).Set.zeroValue")
    if fl / ReflectliteValue.flagAddr % 2 == 0 then unsupported (.noEntry "extern/(internal/reflectlite.Value).Set.unaddressable")
    let val ← loadVar src b
    if ← Rtype.directlyAssignable dst src then storeVar dst a val
    else if ← Rtype.implements dst src then
      if (← Rtype.kind src) == 20 then
        match val with
        | .nilIface => unsupported (.noEntry "extern/reflectlite: a nil value of one interface type handed on as a value of another")
        | _ => storeVar dst a val
      else storeVar dst a (.iface src val)
    else panicString ("reflectlite.Set: value of type " ++ (← Rtype.spelt src) ++ " is not assignable to type " ++ (← Rtype.spelt dst))
    pure (.tuple #[])) := rfl
theorem fa_parts25a (a : Addr) (w : World) : (ReflectliteValue.parts (.agg #[.pointer (some ⟨3, 84, none⟩), .pointer (some a), .int .u64 406])).run Tryz.prog w = .ok (some (84, a, 406)) w := by kernel_rfl
theorem fa_parts25 (a : Addr) (w : World) : (ReflectliteValue.parts (.agg #[.pointer (some ⟨3, 84, none⟩), .pointer (some a), .int .u64 150])).run Tryz.prog w = .ok (some (84, a, 150)) w := by kernel_rfl
theorem fa_direct25 (w : World) : (Rtype.directlyAssignable 84 84).run Tryz.prog w = .ok true w := by kernel_rfl
theorem fa_set25 (ta b e : Addr) (old : Value) (W : World) (hb : W.cell? b = some (.pointer (some e))) (ht : W.cell? ta = some old) (hf : W.frozen? ta = false) :
    (ReflectliteValue.set #[.agg #[.pointer (some ⟨3, 84, none⟩), .pointer (some ta), .int .u64 406], .agg #[.pointer (some ⟨3, 84, none⟩), .pointer (some b), .int .u64 150]]).run Tryz.prog W
      = .ok (.tuple #[]) (W.setCell ta (.pointer (some e))) := by
  rw [fa_rls]
  simp only [Sem.run_bind, fa_parts25a, fa_parts25, Result.andThen]
  simp [ReflectliteValue.flagAddr, loadVar, isAgg, underlying, Tryz.underlying84, hb, Result.andThen, fa_direct25, storeVar, Value.cells, storeCells, Addr.add]
  rw [run_store Tryz.prog W ta _ _ (by rfl)]
  simp [ht, hf]
set_option maxHeartbeats 4000000 in
theorem fa_hit (e t : Addr) (old : Value) (w : World) (hg : w.cell? ⟨0, 0, none⟩ = some (.iface 160 (.agg #[.pointer (some ⟨3, 27, none⟩)]))) (ht0 : w.cell? t = some old) (hf0 : w.frozen? t = false) :
    Calls Tryz.prog 36 #[.iface 84 (.pointer (some e)), .iface 128 (.pointer (some t))] w fun ev w' => ev = .returned (.bool true) ∧ w' = ((((w.alloc (.cells #[.pointer (some t)] 128)).alloc (.cells #[.pointer (some ⟨3, 128, none⟩), .pointer (some ⟨w.heap.size, 0, none⟩), .int .u64 150] 132)).alloc (.cells #[.pointer (some ⟨3, 128, none⟩), .pointer (some ⟨w.heap.size, 0, none⟩), .int .u64 150] 132)).alloc (.cells #[.pointer (some e)] 84)).setCell t (.pointer (some e)) := by
  have h6 := @run_callFunc_extern Tryz.prog 68 _ (fun args => ReflectliteValue.unpack (args.getD 0 (.tuple #[]))) Tryz.func68 (by kernel_rfl) (by kernel_rfl) (by kernel_rfl) (by kernel_rfl)
  have h7 := @run_callFunc_extern Tryz.prog 69 _ (ReflectliteValue.methodAny (ReflectliteValue.valueError "reflectlite.Value.Type" 0) (fun t _ _ _ => ReflectliteType.toType t)) Tryz.func69 (by kernel_rfl) (by kernel_rfl) (by kernel_rfl) (by kernel_rfl)
  have h8 := @run_callFunc_extern Tryz.prog 70 _ (ReflectliteValue.method (ReflectliteValue.valueError "reflectlite.Value.IsNil" 0) ReflectliteValue.isNil) Tryz.func70 (by kernel_rfl) (by kernel_rfl) (by kernel_rfl) (by kernel_rfl)
  have h27 := @run_callFunc_extern Tryz.prog 217 _ (ReflectliteType.abiMethod fun t => do pure (.int .u8 (← Rtype.kind t))) Tryz.func217 (by kernel_rfl) (by kernel_rfl) (by kernel_rfl) (by kernel_rfl)
  have h37 := @run_callFunc_extern Tryz.prog 229 _ (ReflectliteType.method ReflectliteType.elem) Tryz.func229 (by kernel_rfl) (by kernel_rfl) (by kernel_rfl) (by kernel_rfl)
  have h38 := @run_callFunc_extern Tryz.prog 230 _ (ReflectliteType.relation "Implements" ReflectliteType.implements_) Tryz.func230 (by kernel_rfl) (by kernel_rfl) (by kernel_rfl) (by kernel_rfl)
  have h10 := @run_callFunc_extern Tryz.prog 72 _ ReflectliteType.typeOf Tryz.func72 (by kernel_rfl) (by kernel_rfl) (by kernel_rfl) (by kernel_rfl)
  have h35 := @run_callFunc_extern Tryz.prog 227 _ (ReflectliteType.relation "AssignableTo" ReflectliteType.assignableTo) Tryz.func227 (by kernel_rfl) (by kernel_rfl) (by kernel_rfl) (by kernel_rfl)
  have h11 := @run_callFunc_extern Tryz.prog 108 _ (ReflectliteValue.method (ReflectliteValue.valueError "reflectlite.Value.Elem" 0) ReflectliteValue.elem) Tryz.func108 (by kernel_rfl) (by kernel_rfl) (by kernel_rfl) (by kernel_rfl)
  have h12 := @run_callFunc_extern Tryz.prog 109 _ ReflectliteValue.set Tryz.func109 (by kernel_rfl) (by kernel_rfl) (by kernel_rfl) (by kernel_rfl)
  have tO := fa_typeOf25
  have mA := fa_methodAssignableTo
  have a25 := fa_assignable25
  have v25 := fa_valueOf25
  have f6 := fa_valueOf27
  have f7 := fa_type27
  have mK := fa_methodKind
  have mE := fa_methodElem
  have mI := fa_methodImplements
  have k27 := fa_kind27
  have k25 := fa_kind25
  have e27 := fa_elem27
  have i25 := fa_implements25
  have n8 := fa_isNil27 ⟨w.heap.size, 0, none⟩ t ((w.alloc (.cells #[.pointer (some t)] 128)).alloc (.cells #[.pointer (some ⟨3, 128, none⟩), .pointer (some ⟨w.heap.size, 0, none⟩), .int .u64 150] 132)) (by simp)
  have hlt : 0 < w.heap.size := by
    rcases Nat.lt_or_ge 0 w.heap.size with h | h
    · exact h
    · simp [World.cell?, Array.getElem?_eq_none h] at hg
  have hg2 : ((w.alloc (.cells #[.pointer (some t)] 128)).alloc (.cells #[.pointer (some ⟨3, 128, none⟩), .pointer (some ⟨w.heap.size, 0, none⟩), .int .u64 150] 132)).cell? ⟨0, 0, none⟩ = some (.iface 160 (.agg #[.pointer (some ⟨3, 27, none⟩)])) := by
    rw [World.cell?_alloc_lt _ _ ⟨0, 0, none⟩ (by simp), World.cell?_alloc_lt _ _ ⟨0, 0, none⟩ hlt]; exact hg
  have htl : t.block < w.heap.size := by
    rcases Nat.lt_or_ge t.block w.heap.size with h | h
    · exact h
    · simp [World.cell?, Array.getElem?_eq_none h] at ht0
  have el := fa_elemV27 ⟨w.heap.size, 0, none⟩ t (((w.alloc (.cells #[.pointer (some t)] 128)).alloc (.cells #[.pointer (some ⟨3, 128, none⟩), .pointer (some ⟨w.heap.size, 0, none⟩), .int .u64 150] 132)).alloc (.cells #[.pointer (some ⟨3, 128, none⟩), .pointer (some ⟨w.heap.size, 0, none⟩), .int .u64 150] 132)) (by rw [World.cell?_alloc_lt _ _ ⟨w.heap.size, 0, none⟩ (by simp; omega)]; simp)
  have st := fa_set25 t ⟨w.heap.size + 1 + 1 + 1, 0, none⟩ e old ((((w.alloc (.cells #[.pointer (some t)] 128)).alloc (.cells #[.pointer (some ⟨3, 128, none⟩), .pointer (some ⟨w.heap.size, 0, none⟩), .int .u64 150] 132)).alloc (.cells #[.pointer (some ⟨3, 128, none⟩), .pointer (some ⟨w.heap.size, 0, none⟩), .int .u64 150] 132)).alloc (.cells #[.pointer (some e)] 84))
    (by rw [World.cell?_alloc_at _ _ _ _ (by simp)]; rfl)
    (by rw [World.cell?_alloc_lt _ _ t (by simp; omega), World.cell?_alloc_lt _ _ t (by simp; omega), World.cell?_alloc_lt _ _ t (by simp; omega), World.cell?_alloc_lt _ _ t htl]; exact ht0)
    (by rw [World.frozen?_alloc_old _ _ t (by simp; omega), World.frozen?_alloc_old _ _ t (by simp; omega), World.frozen?_alloc_old _ _ t (by simp; omega), World.frozen?_alloc_old _ _ t (Nat.ne_of_lt htl)]; exact hf0)
  go_enter Tryz.func36, Tryz.ntmps36
  go_wp2
  refine wp_loop_rounds 1 ?_
  rw [rounds_succ]
  go_wp2
  go_ret
  exact ⟨rfl, rfl⟩
theorem find_hit (p : Addr) (w : World) (hg : w.cell? ⟨0, 0, none⟩ = some (.iface 160 (.agg #[.pointer (some ⟨3, 27, none⟩)]))) (hlt : 0 < w.heap.size) : Calls Tryz.prog 35 #[.iface 84 (.pointer (some p))] w fun e w' => e = .returned (.pointer (some p)) ∧ Below w.heap.size w w' := by
  have hgA : (w.alloc (.cells #[.pointer none] 84)).cell? ⟨0, 0, none⟩ = some (.iface 160 (.agg #[.pointer (some ⟨3, 27, none⟩)])) := by
    rw [World.cell?_alloc_lt _ _ ⟨0, 0, none⟩ hlt]; exact hg
  have htA : (w.alloc (.cells #[.pointer none] 84)).cell? ⟨w.heap.size, 0, none⟩ = some (.pointer none) := by simp
  have hfA : (w.alloc (.cells #[.pointer none] 84)).frozen? ⟨w.heap.size, 0, none⟩ = false := by simp
  go_enter Tryz.func35, Tryz.ntmps35
  go_wp2_with (go_at_call 36; refine (fa_hit _ _ (.pointer none) _ hgA htA hfA).mono ?_; rintro e w' ⟨rfl, rfl⟩)
  go_ret
  refine ⟨rfl, ?_⟩
  exact (((((Below.refl _ w).alloc (Nat.le_refl _) _).alloc (by simp) _).alloc (by simp; omega) _).alloc (by simp; omega) _).alloc (by simp; omega) _
theorem c_fault_find_f (N : Nat) : C_fault_find_f.Ok prog N := by
  refine ⟨⟨Tryz.f35, Tryz.func35, by kernel_rfl, by kernel_rfl⟩, fun a r h => ?_⟩
  obtain ⟨⟨n, p, ⟨⟩⟩, ⟨⟩⟩ := a
  have h : s_fault_find_f N n p = some r := h
  obtain rfl := Option.some.inj h
  intro M S w vs hh hp hsz hrep
  obtain ⟨v, rfl⟩ : ∃ v, vs = #[v] := by
    match vs, hsz with
    | ⟨[v]⟩, _ => exact ⟨v, rfl⟩
  obtain ⟨u, hu, h1⟩ := ifc_rep (hrep 0 (Nat.zero_lt_one))
  have hu : v = .iface 84 u := hu
  subst hu
  have hq : ∃ q, u = .pointer (some q) := by
    cases h1 with | data h1 => cases h1; exact ⟨_, rfl⟩
  obtain ⟨q, rfl⟩ := hq
  obtain ⟨h2, _, h3⟩ := hp _ _ (show envCell prog = some (0, .iface 160 (.agg #[.pointer (some ⟨3, 27, none⟩)])) from by kernel_rfl)
  refine (find_hit q w h2 h3).mono ?_
  rintro e w' ⟨rfl, hb⟩
  have hg : Grew w w' := ⟨hb.os, hb.tape, hb.output, hb.size, hb.block⟩
  exact ⟨M, S, VRep.grew hh hg h1, hh.grew hg, .grew hh hg⟩
end
section
open Go.Proofs.Tryz
set_option maxRecDepth 1000000
noncomputable section
noncomputable def F_lex_small : Fn C_lex_small := ⟨f86, [], ⟨[], [], sbf, bof⟩, [], [true], none, 0, 0, fun _ _ => true, none⟩
theorem o_lex_small : F_lex_small.Ok prog := ⟨Is.of (by kernel_rfl) (by kernel_rfl), by kernel_rfl, hint_sb sb_ok bo_ok, trivial, trivial, fun _ => by kernel_rfl⟩
theorem c_lex_small (N : Nat) : C_lex_small.Ok prog N := o_lex_small.give tb_ok hm N N trivial fun a r s h => by
  exact s.main [] trivial (.trans (by kernel_rfl) h)
noncomputable def F_lex_scanner_fail_v359 : Fn C_lex_scanner_fail_v359 := ⟨f89, [], ⟨[], [], sbf, bof⟩, [C_fault_New], [false], none, 1, 1, fun _ _ => true, none⟩
theorem o_lex_scanner_fail_v359 : F_lex_scanner_fail_v359.Ok prog := ⟨Is.of (by kernel_rfl) (by kernel_rfl), by kernel_rfl, hint_sb sb_ok bo_ok, trivial, trivial, fun _ => by kernel_rfl⟩
theorem c_lex_scanner_fail_v359 (N : Nat) : C_lex_scanner_fail_v359.Ok prog N := o_lex_scanner_fail_v359.give tb_ok hm N N ⟨c_fault_New N, trivial⟩ fun a r s h => by
  exact s.main [] trivial (.trans (by kernel_rfl) h)
noncomputable def F_lex_digit : Fn C_lex_digit := ⟨f87, [], ⟨[], [], sbf, bof⟩, [], [true], none, 0, 0, fun _ _ => true, none⟩
theorem o_lex_digit : F_lex_digit.Ok prog := ⟨Is.of (by kernel_rfl) (by kernel_rfl), by kernel_rfl, hint_sb sb_ok bo_ok, trivial, trivial, fun _ => by kernel_rfl⟩
theorem c_lex_digit (N : Nat) : C_lex_digit.Ok prog N := o_lex_digit.give tb_ok hm N N trivial fun a r s h => by
  exact s.main [] trivial (.trans (by kernel_rfl) h)
noncomputable def F_lex_tail : Fn C_lex_tail := ⟨f120, [], ⟨[], [], sbf, bof⟩, [C_lex_small, C_lex_digit], [true], none, 0, 0, fun _ _ => true, none⟩
theorem o_lex_tail : F_lex_tail.Ok prog := ⟨Is.of (by kernel_rfl) (by kernel_rfl), by kernel_rfl, hint_sb sb_ok bo_ok, trivial, trivial, fun _ => by kernel_rfl⟩
theorem c_lex_tail (N : Nat) : C_lex_tail.Ok prog N := o_lex_tail.give tb_ok hm N N ⟨c_lex_small N, c_lex_digit N, trivial⟩ fun a r s h => by
  exact s.main [] trivial (.trans (by kernel_rfl) h)
noncomputable def F_lex_scanner_length_v869 : Fn C_lex_scanner_length_v869 := ⟨f119, [], ⟨[], [], sbf, bof⟩, [C_lex_tail], [true], none, 1, 1, fun _ _ => true, none⟩
theorem o_lex_scanner_length_v869 : F_lex_scanner_length_v869.Ok prog := ⟨Is.of (by kernel_rfl) (by kernel_rfl), by kernel_rfl, hint_sb sb_ok bo_ok, trivial, trivial, fun _ => by kernel_rfl⟩
theorem c_lex_scanner_length_v869 (N : Nat) : C_lex_scanner_length_v869.Ok prog N := o_lex_scanner_length_v869.give tb_ok hm N N ⟨c_lex_tail N, trivial⟩ fun a r s h => by
  have l0 := s.loop 0 q_lex_scanner_length_v869_0 (f_lex_scanner_length_v869_0 N) N fun next0 h0 => by
    exact fun c v => s.seg 0 q_lex_scanner_length_v869_0 [(0, .of q_lex_scanner_length_v869_0 next0)] ⟨h0, trivial⟩ (by kernel_rfl) (by kernel_rfl)
  exact s.main [(0, .of q_lex_scanner_length_v869_0 (r_lex_scanner_length_v869_0 N))] ⟨l0, trivial⟩ (.trans (by kernel_rfl) h)
noncomputable def F_value_OfFlag : Fn C_value_OfFlag := ⟨f122, [], ⟨[], [], sbf, bof⟩, [], [true], none, 0, 0, fun _ _ => true, none⟩
theorem o_value_OfFlag : F_value_OfFlag.Ok prog := ⟨Is.of (by kernel_rfl) (by kernel_rfl), by kernel_rfl, hint_sb sb_ok bo_ok, trivial, trivial, fun _ => by kernel_rfl⟩
theorem c_value_OfFlag (N : Nat) : C_value_OfFlag.Ok prog N := o_value_OfFlag.give tb_ok hm N N trivial fun a r s h => by
  exact s.main [] trivial (.trans (by kernel_rfl) h)
noncomputable def F_lex_scanner_put_v420 : Fn C_lex_scanner_put_v420 := ⟨f121, [], ⟨[(24, 0)], [], sbf, bof⟩, [], [false], none, 1, 1, fun _ _ => true, none⟩
theorem o_lex_scanner_put_v420 : F_lex_scanner_put_v420.Ok prog := ⟨Is.of (by kernel_rfl) (by kernel_rfl), by kernel_rfl, hint_sb sb_ok bo_ok, trivial, trivial, fun _ => by kernel_rfl⟩
theorem c_lex_scanner_put_v420 (N : Nat) : C_lex_scanner_put_v420.Ok prog N := o_lex_scanner_put_v420.give tb_ok hm N N trivial fun a r s h => by
  exact s.main [] trivial (.trans (by kernel_rfl) h)
noncomputable def F_schema_Reserved : Fn C_schema_Reserved := ⟨f83, [], ⟨[], [], sbf, bof⟩, [], [true], none, 0, 0, fun _ _ => true, none⟩
theorem o_schema_Reserved : F_schema_Reserved.Ok prog := ⟨Is.of (by kernel_rfl) (by kernel_rfl), by kernel_rfl, hint_sb sb_ok bo_ok, trivial, trivial, fun _ => by kernel_rfl⟩
theorem c_schema_Reserved (N : Nat) : C_schema_Reserved.Ok prog N := o_schema_Reserved.give tb_ok hm N N trivial fun a r s h => by
  exact s.main [] trivial (.trans (by kernel_rfl) h)
noncomputable def F_lex_scanner_word_v558 : Fn C_lex_scanner_word_v558 := ⟨f90, [], ⟨[], [], sbf, bof⟩, [C_lex_scanner_length_v869, C_value_OfFlag, C_lex_scanner_put_v420, C_schema_Reserved, C_lex_scanner_fail_v359], [false], none, 1, 1, fun _ _ => true, none⟩
theorem o_lex_scanner_word_v558 : F_lex_scanner_word_v558.Ok prog := ⟨Is.of (by kernel_rfl) (by kernel_rfl), by kernel_rfl, hint_sb sb_ok bo_ok, trivial, trivial, fun _ => by kernel_rfl⟩
theorem c_lex_scanner_word_v558 (N : Nat) : C_lex_scanner_word_v558.Ok prog N := o_lex_scanner_word_v558.give tb_ok hm N N ⟨c_lex_scanner_length_v869 N, c_value_OfFlag N, c_lex_scanner_put_v420 N, c_schema_Reserved N, c_lex_scanner_fail_v359 N, trivial⟩ fun a r s h => by
  exact s.main [] trivial (.trans (by kernel_rfl) h)
noncomputable def F_lex_scanner_length_v416 : Fn C_lex_scanner_length_v416 := ⟨f119, [], ⟨[], [], sbf, bof⟩, [C_lex_digit], [true], none, 1, 1, fun _ _ => true, none⟩
theorem o_lex_scanner_length_v416 : F_lex_scanner_length_v416.Ok prog := ⟨Is.of (by kernel_rfl) (by kernel_rfl), by kernel_rfl, hint_sb sb_ok bo_ok, trivial, trivial, fun _ => by kernel_rfl⟩
theorem c_lex_scanner_length_v416 (N : Nat) : C_lex_scanner_length_v416.Ok prog N := o_lex_scanner_length_v416.give tb_ok hm N N ⟨c_lex_digit N, trivial⟩ fun a r s h => by
  have l0 := s.loop 0 q_lex_scanner_length_v416_0 (f_lex_scanner_length_v416_0 N) N fun next0 h0 => by
    exact fun c v => s.seg 0 q_lex_scanner_length_v416_0 [(0, .of q_lex_scanner_length_v416_0 next0)] ⟨h0, trivial⟩ (by kernel_rfl) (by kernel_rfl)
  exact s.main [(0, .of q_lex_scanner_length_v416_0 (r_lex_scanner_length_v416_0 N))] ⟨l0, trivial⟩ (.trans (by kernel_rfl) h)
noncomputable def F_value_OfInt : Fn C_value_OfInt := ⟨f78, [], ⟨[], [], sbf, bof⟩, [], [true], none, 0, 0, fun _ _ => true, none⟩
theorem o_value_OfInt : F_value_OfInt.Ok prog := ⟨Is.of (by kernel_rfl) (by kernel_rfl), by kernel_rfl, hint_sb sb_ok bo_ok, trivial, trivial, fun _ => by kernel_rfl⟩
theorem c_value_OfInt (N : Nat) : C_value_OfInt.Ok prog N := o_value_OfInt.give tb_ok hm N N trivial fun a r s h => by
  exact s.main [] trivial (.trans (by kernel_rfl) h)
noncomputable def F_lex_scanner_number_v558 : Fn C_lex_scanner_number_v558 := ⟨f91, [], ⟨[], [], sbf, bof⟩, [C_lex_scanner_length_v416, C_lex_scanner_fail_v359, C_value_OfInt, C_lex_scanner_put_v420], [false], none, 1, 1, fun _ _ => true, none⟩
theorem o_lex_scanner_number_v558 : F_lex_scanner_number_v558.Ok prog := ⟨Is.of (by kernel_rfl) (by kernel_rfl), by kernel_rfl, hint_sb sb_ok bo_ok, trivial, trivial, fun _ => by kernel_rfl⟩
theorem c_lex_scanner_number_v558 (N : Nat) : C_lex_scanner_number_v558.Ok prog N := o_lex_scanner_number_v558.give tb_ok hm N N ⟨c_lex_scanner_length_v416 N, c_lex_scanner_fail_v359 N, c_value_OfInt N, c_lex_scanner_put_v420 N, trivial⟩ fun a r s h => by
  have l0 := s.loop 0 q_lex_scanner_number_v558_0 (f_lex_scanner_number_v558_0 N) N fun next0 h0 => by
    exact fun c v => s.seg 0 q_lex_scanner_number_v558_0 [(0, .of q_lex_scanner_number_v558_0 next0)] ⟨h0, trivial⟩ (by kernel_rfl) (by kernel_rfl)
  exact s.main [(0, .of q_lex_scanner_number_v558_0 (r_lex_scanner_number_v558_0 N))] ⟨l0, trivial⟩ (.trans (by kernel_rfl) h)
noncomputable def F_stringslite_IndexByte : Fn C_stringslite_IndexByte := ⟨f118, [(148, .ib)], ⟨[], [], sbf, bof⟩, [], [true], none, 0, 0, fun _ _ => true, none⟩
theorem o_stringslite_IndexByte : F_stringslite_IndexByte.Ok prog := ⟨Is.of (by kernel_rfl) (by kernel_rfl), by kernel_rfl, hint_sb sb_ok bo_ok, trivial, ⟨ExtIs.mk' f148 (by kernel_rfl) (by kernel_rfl) (by kernel_rfl) (by kernel_rfl) (by kernel_rfl), trivial⟩, fun _ => by kernel_rfl⟩
theorem c_stringslite_IndexByte (N : Nat) : C_stringslite_IndexByte.Ok prog N := o_stringslite_IndexByte.give tb_ok hm N N trivial fun a r s h => by
  exact s.main [] trivial (.trans (by kernel_rfl) h)
noncomputable def F_strings_IndexByte : Fn C_strings_IndexByte := ⟨f88, [], ⟨[], [], sbf, bof⟩, [C_stringslite_IndexByte], [true], none, 0, 0, fun _ _ => true, none⟩
theorem o_strings_IndexByte : F_strings_IndexByte.Ok prog := ⟨Is.of (by kernel_rfl) (by kernel_rfl), by kernel_rfl, hint_sb sb_ok bo_ok, trivial, trivial, fun _ => by kernel_rfl⟩
theorem c_strings_IndexByte (N : Nat) : C_strings_IndexByte.Ok prog N := o_strings_IndexByte.give tb_ok hm N N ⟨c_stringslite_IndexByte N, trivial⟩ fun a r s h => by
  exact s.main [] trivial (.trans (by kernel_rfl) h)
noncomputable def F_lex_base16 : Fn C_lex_base16 := ⟨f123, [], ⟨[], [], sbf, bof⟩, [C_strings_IndexByte], [true], none, 0, 0, fun _ _ => true, none⟩
theorem o_lex_base16 : F_lex_base16.Ok prog := ⟨Is.of (by kernel_rfl) (by kernel_rfl), by kernel_rfl, hint_sb sb_ok bo_ok, trivial, trivial, fun _ => by kernel_rfl⟩
theorem c_lex_base16 (N : Nat) : C_lex_base16.Ok prog N := o_lex_base16.give tb_ok hm N N ⟨c_strings_IndexByte N, trivial⟩ fun a r s h => by
  exact s.main [] trivial (.trans (by kernel_rfl) h)
noncomputable def F_real_of : Fn C_real_of := ⟨f149, [(163, .fb)], ⟨[], [], sbf, bof⟩, [], [true], none, 0, 0, fun _ _ => true, none⟩
theorem o_real_of : F_real_of.Ok prog := ⟨Is.of (by kernel_rfl) (by kernel_rfl), by kernel_rfl, hint_sb sb_ok bo_ok, trivial, ⟨ExtIs.mk' f163 (by kernel_rfl) (by kernel_rfl) (by kernel_rfl) (by kernel_rfl) (by kernel_rfl), trivial⟩, fun _ => by kernel_rfl⟩
theorem c_real_of (N : Nat) : C_real_of.Ok prog N := o_real_of.give tb_ok hm N N trivial fun a r s h => by
  exact s.main [] trivial (.trans (by kernel_rfl) h)
noncomputable def F_real_Clean : Fn C_real_Clean := ⟨f124, [], ⟨[], [], sbf, bof⟩, [C_real_of], [true], none, 0, 0, fun _ _ => true, none⟩
theorem o_real_Clean : F_real_Clean.Ok prog := ⟨Is.of (by kernel_rfl) (by kernel_rfl), by kernel_rfl, hint_sb sb_ok bo_ok, trivial, trivial, fun _ => by kernel_rfl⟩
theorem c_real_Clean (N : Nat) : C_real_Clean.Ok prog N := o_real_Clean.give tb_ok hm N N ⟨c_real_of N, trivial⟩ fun a r s h => by
  exact s.main [] trivial (.trans (by kernel_rfl) h)
noncomputable def F_value_OfReal : Fn C_value_OfReal := ⟨f125, [], ⟨[], [], sbf, bof⟩, [C_real_Clean], [true], none, 0, 0, fun _ _ => true, none⟩
theorem o_value_OfReal : F_value_OfReal.Ok prog := ⟨Is.of (by kernel_rfl) (by kernel_rfl), by kernel_rfl, hint_sb sb_ok bo_ok, trivial, trivial, fun _ => by kernel_rfl⟩
theorem c_value_OfReal (N : Nat) : C_value_OfReal.Ok prog N := o_value_OfReal.give tb_ok hm N N ⟨c_real_Clean N, trivial⟩ fun a r s h => by
  exact s.main [] trivial (.trans (by kernel_rfl) h)
noncomputable def F_lex_scanner_double_v558 : Fn C_lex_scanner_double_v558 := ⟨f92, [], ⟨[], [], sbf, bof⟩, [C_lex_scanner_fail_v359, C_lex_base16, C_real_Clean, C_value_OfReal, C_lex_scanner_put_v420], [false], none, 1, 1, fun _ _ => true, none⟩
theorem o_lex_scanner_double_v558 : F_lex_scanner_double_v558.Ok prog := ⟨Is.of (by kernel_rfl) (by kernel_rfl), by kernel_rfl, hint_sb sb_ok bo_ok, trivial, trivial, fun _ => by kernel_rfl⟩
theorem c_lex_scanner_double_v558 (N : Nat) : C_lex_scanner_double_v558.Ok prog N := o_lex_scanner_double_v558.give tb_ok hm N N ⟨c_lex_scanner_fail_v359 N, c_lex_base16 N, c_real_Clean N, c_value_OfReal N, c_lex_scanner_put_v420 N, trivial⟩ fun a r s h => by
  have l0 := s.loop 0 q_lex_scanner_double_v558_0 (f_lex_scanner_double_v558_0 N) N fun next0 h0 => by
    exact fun c v => s.seg 0 q_lex_scanner_double_v558_0 [(0, .of q_lex_scanner_double_v558_0 next0)] ⟨h0, trivial⟩ (by kernel_rfl) (by kernel_rfl)
  exact s.main [(0, .of q_lex_scanner_double_v558_0 (r_lex_scanner_double_v558_0 N))] ⟨l0, trivial⟩ (.trans (by kernel_rfl) h)
end
end
section
open Go.Proofs.Tryz
set_option maxRecDepth 1000000
noncomputable section
noncomputable def F_lex_scanner_escaped_v359 : Fn C_lex_scanner_escaped_v359 := ⟨f126, [], ⟨[], [], sbf, bof⟩, [C_lex_base16], [true, true], none, 1, 1, fun _ _ => true, none⟩
theorem o_lex_scanner_escaped_v359 : F_lex_scanner_escaped_v359.Ok prog := ⟨Is.of (by kernel_rfl) (by kernel_rfl), by kernel_rfl, hint_sb sb_ok bo_ok, trivial, trivial, fun _ => by kernel_rfl⟩
theorem c_lex_scanner_escaped_v359 (N : Nat) : C_lex_scanner_escaped_v359.Ok prog N := o_lex_scanner_escaped_v359.give tb_ok hm N N ⟨c_lex_base16 N, trivial⟩ fun a r s h => by
  exact s.main [] trivial (.trans (by kernel_rfl) h)
noncomputable def F_value_OfText : Fn C_value_OfText := ⟨f127, [], ⟨[], [], sbf, bof⟩, [], [true], none, 0, 0, fun _ _ => true, none⟩
theorem o_value_OfText : F_value_OfText.Ok prog := ⟨Is.of (by kernel_rfl) (by kernel_rfl), by kernel_rfl, hint_sb sb_ok bo_ok, trivial, trivial, fun _ => by kernel_rfl⟩
theorem c_value_OfText (N : Nat) : C_value_OfText.Ok prog N := o_value_OfText.give tb_ok hm N N trivial fun a r s h => by
  exact s.main [] trivial (.trans (by kernel_rfl) h)
noncomputable def F_lex_scanner_quoted_v558 : Fn C_lex_scanner_quoted_v558 := ⟨f93, [], ⟨[(52, 2), (61, 2), (86, 2)], [], sbf, bof⟩, [C_fault_New, C_lex_scanner_escaped_v359, C_lex_scanner_fail_v359, C_value_OfText, C_lex_scanner_put_v420], [false], none, 1, 1, fun _ _ => true, none⟩
theorem o_lex_scanner_quoted_v558 : F_lex_scanner_quoted_v558.Ok prog := ⟨Is.of (by kernel_rfl) (by kernel_rfl), by kernel_rfl, hint_sb sb_ok bo_ok, trivial, trivial, fun _ => by kernel_rfl⟩
theorem c_lex_scanner_quoted_v558 (N : Nat) : C_lex_scanner_quoted_v558.Ok prog N := o_lex_scanner_quoted_v558.give tb_ok hm N N ⟨c_fault_New N, c_lex_scanner_escaped_v359 N, c_lex_scanner_fail_v359 N, c_value_OfText N, c_lex_scanner_put_v420 N, trivial⟩ fun a r s h => by
  have l0 := s.loop 0 q_lex_scanner_quoted_v558_0 (f_lex_scanner_quoted_v558_0 N) N fun next0 h0 => by
    exact fun c v => s.seg 0 q_lex_scanner_quoted_v558_0 [(0, .of q_lex_scanner_quoted_v558_0 next0)] ⟨h0, trivial⟩ (by kernel_rfl) (by kernel_rfl)
  exact s.main [(0, .of q_lex_scanner_quoted_v558_0 (r_lex_scanner_quoted_v558_0 N))] ⟨l0, trivial⟩ (.trans (by kernel_rfl) h)
noncomputable def F_lex_scanner_sign_v558 : Fn C_lex_scanner_sign_v558 := ⟨f94, [], ⟨[], [], sbf, bof⟩, [C_strings_IndexByte, C_lex_scanner_put_v420], [false], none, 1, 1, fun _ _ => true, none⟩
theorem o_lex_scanner_sign_v558 : F_lex_scanner_sign_v558.Ok prog := ⟨Is.of (by kernel_rfl) (by kernel_rfl), by kernel_rfl, hint_sb sb_ok bo_ok, trivial, trivial, fun _ => by kernel_rfl⟩
theorem c_lex_scanner_sign_v558 (N : Nat) : C_lex_scanner_sign_v558.Ok prog N := o_lex_scanner_sign_v558.give tb_ok hm N N ⟨c_strings_IndexByte N, c_lex_scanner_put_v420 N, trivial⟩ fun a r s h => by
  exact s.main [] trivial (.trans (by kernel_rfl) h)
noncomputable def F_lex_scanner_token_v558 : Fn C_lex_scanner_token_v558 := ⟨f51, [], ⟨[], [], sbf, bof⟩, [C_lex_small, C_lex_scanner_fail_v359, C_lex_scanner_word_v558, C_lex_digit, C_lex_scanner_number_v558, C_lex_scanner_double_v558, C_lex_scanner_quoted_v558, C_lex_scanner_sign_v558, C_strings_IndexByte], [false], none, 1, 1, fun _ _ => true, none⟩
theorem o_lex_scanner_token_v558 : F_lex_scanner_token_v558.Ok prog := ⟨Is.of (by kernel_rfl) (by kernel_rfl), by kernel_rfl, hint_sb sb_ok bo_ok, trivial, trivial, fun _ => by kernel_rfl⟩
theorem c_lex_scanner_token_v558 (N : Nat) : C_lex_scanner_token_v558.Ok prog N := o_lex_scanner_token_v558.give tb_ok hm N N ⟨c_lex_small N, c_lex_scanner_fail_v359 N, c_lex_scanner_word_v558 N, c_lex_digit N, c_lex_scanner_number_v558 N, c_lex_scanner_double_v558 N, c_lex_scanner_quoted_v558 N, c_lex_scanner_sign_v558 N, c_strings_IndexByte N, trivial⟩ fun a r s h => by
  exact s.main [] trivial (.trans (by kernel_rfl) h)
noncomputable def F_lex_Scan : Fn C_lex_Scan := ⟨f21, [], ⟨[], [], sbf, bof⟩, [C_fault_New, C_lex_scanner_token_v558], [true, false], none, 0, 0, fun _ _ => true, none⟩
theorem o_lex_Scan : F_lex_Scan.Ok prog := ⟨Is.of (by kernel_rfl) (by kernel_rfl), by kernel_rfl, hint_sb sb_ok bo_ok, trivial, trivial, fun _ => by kernel_rfl⟩
theorem c_lex_Scan (N : Nat) : C_lex_Scan.Ok prog N := o_lex_Scan.give tb_ok hm N N ⟨c_fault_New N, c_lex_scanner_token_v558 N, trivial⟩ fun a r s h => by
  have l0 := s.loop 0 q_lex_Scan_0 (f_lex_Scan_0 N) N fun next0 h0 => by
    exact fun c v => s.seg 0 q_lex_Scan_0 [(0, .of q_lex_Scan_0 next0)] ⟨h0, trivial⟩ (by kernel_rfl) (by kernel_rfl)
  exact s.main [(0, .of q_lex_Scan_0 (r_lex_Scan_0 N))] ⟨l0, trivial⟩ (.trans (by kernel_rfl) h)
noncomputable def F_grammar_reader_peek_v368 : Fn C_grammar_reader_peek_v368 := ⟨f97, [], ⟨[], [], sbf, bof⟩, [], [true], none, 1, 0, fun _ _ => true, none⟩
theorem o_grammar_reader_peek_v368 : F_grammar_reader_peek_v368.Ok prog := ⟨Is.of (by kernel_rfl) (by kernel_rfl), by kernel_rfl, hint_sb sb_ok bo_ok, trivial, trivial, fun _ => by kernel_rfl⟩
theorem c_grammar_reader_peek_v368 (N : Nat) : C_grammar_reader_peek_v368.Ok prog N := o_grammar_reader_peek_v368.give tb_ok hm N N trivial fun a r s h => by
  exact s.main [] trivial (.trans (by kernel_rfl) h)
noncomputable def F_grammar_reader_eat_v368 : Fn C_grammar_reader_eat_v368 := ⟨f56, [], ⟨[], [], sbf, bof⟩, [C_grammar_reader_peek_v368], [true], none, 1, 0, fun _ _ => true, none⟩
theorem o_grammar_reader_eat_v368 : F_grammar_reader_eat_v368.Ok prog := ⟨Is.of (by kernel_rfl) (by kernel_rfl), by kernel_rfl, hint_sb sb_ok bo_ok, trivial, trivial, fun _ => by kernel_rfl⟩
theorem c_grammar_reader_eat_v368 (N : Nat) : C_grammar_reader_eat_v368.Ok prog N := o_grammar_reader_eat_v368.give tb_ok hm N N ⟨c_grammar_reader_peek_v368 N, trivial⟩ fun a r s h => by
  exact s.main [] trivial (.trans (by kernel_rfl) h)
noncomputable def F_grammar_stop_n : Fn C_grammar_stop_n := ⟨f98, [], ⟨[], [], sbf, bof⟩, [], [], none, 0, 0, fun _ _ => true, none⟩
theorem o_grammar_stop_n : F_grammar_stop_n.Ok prog := ⟨Is.of (by kernel_rfl) (by kernel_rfl), by kernel_rfl, hint_sb sb_ok bo_ok, trivial, trivial, fun _ => by kernel_rfl⟩
theorem c_grammar_stop_n (N : Nat) : C_grammar_stop_n.Ok prog N := o_grammar_stop_n.give tb_ok hm N N trivial fun a r s h => by
  exact s.main [] trivial (.trans (by kernel_rfl) h)
noncomputable def F_grammar_stop_f : Fn C_grammar_stop_f := ⟨f98, [], ⟨[], [], sbf, bof⟩, [], [], none, 0, 0, fun _ _ => true, none⟩
theorem o_grammar_stop_f : F_grammar_stop_f.Ok prog := ⟨Is.of (by kernel_rfl) (by kernel_rfl), by kernel_rfl, hint_sb sb_ok bo_ok, trivial, trivial, fun _ => by kernel_rfl⟩
theorem c_grammar_stop_f (N : Nat) : C_grammar_stop_f.Ok prog N := o_grammar_stop_f.give tb_ok hm N N trivial fun a r s h => by
  exact s.main [] trivial (.trans (by kernel_rfl) h)
noncomputable def F_grammar_reader_fail_v927 : Fn C_grammar_reader_fail_v927 := ⟨f59, [], ⟨[], [], sbf, bof⟩, [C_fault_New, C_grammar_stop_n, C_grammar_stop_f], [], none, 1, 0, fun _ _ => true, none⟩
theorem o_grammar_reader_fail_v927 : F_grammar_reader_fail_v927.Ok prog := ⟨Is.of (by kernel_rfl) (by kernel_rfl), by kernel_rfl, hint_sb sb_ok bo_ok, trivial, trivial, fun _ => by kernel_rfl⟩
theorem c_grammar_reader_fail_v927 (N : Nat) : C_grammar_reader_fail_v927.Ok prog N := o_grammar_reader_fail_v927.give tb_ok hm N N ⟨c_fault_New N, c_grammar_stop_n N, c_grammar_stop_f N, trivial⟩ fun a r s h => by
  exact s.main [] trivial (.trans (by kernel_rfl) h)
noncomputable def F_grammar_reader_name_v424 : Fn C_grammar_reader_name_v424 := ⟨f57, [], ⟨[], [], sbf, bof⟩, [C_grammar_reader_fail_v927], [true], none, 1, 0, fun _ _ => true, none⟩
theorem o_grammar_reader_name_v424 : F_grammar_reader_name_v424.Ok prog := ⟨Is.of (by kernel_rfl) (by kernel_rfl), by kernel_rfl, hint_sb sb_ok bo_ok, trivial, trivial, fun _ => by kernel_rfl⟩
theorem c_grammar_reader_name_v424 (N : Nat) : C_grammar_reader_name_v424.Ok prog N := o_grammar_reader_name_v424.give tb_ok hm N N ⟨c_grammar_reader_fail_v927 N, trivial⟩ fun a r s h => by
  exact s.main [] trivial (.trans (by kernel_rfl) h)
noncomputable def F_grammar_reader_must_v368 : Fn C_grammar_reader_must_v368 := ⟨f54, [], ⟨[], [], sbf, bof⟩, [C_grammar_reader_eat_v368, C_grammar_reader_fail_v927], [], none, 1, 0, fun _ _ => true, none⟩
theorem o_grammar_reader_must_v368 : F_grammar_reader_must_v368.Ok prog := ⟨Is.of (by kernel_rfl) (by kernel_rfl), by kernel_rfl, hint_sb sb_ok bo_ok, trivial, trivial, fun _ => by kernel_rfl⟩
theorem c_grammar_reader_must_v368 (N : Nat) : C_grammar_reader_must_v368.Ok prog N := o_grammar_reader_must_v368.give tb_ok hm N N ⟨c_grammar_reader_eat_v368 N, c_grammar_reader_fail_v927 N, trivial⟩ fun a r s h => by
  exact s.main [] trivial (.trans (by kernel_rfl) h)
noncomputable def F_predtext_parser_next_v424 : Fn C_predtext_parser_next_v424 := ⟨f188, [], ⟨[], [], sbf, bof⟩, [], [true], none, 1, 0, fun _ _ => true, none⟩
theorem o_predtext_parser_next_v424 : F_predtext_parser_next_v424.Ok prog := ⟨Is.of (by kernel_rfl) (by kernel_rfl), by kernel_rfl, hint_sb sb_ok bo_ok, trivial, trivial, fun _ => by kernel_rfl⟩
theorem c_predtext_parser_next_v424 (N : Nat) : C_predtext_parser_next_v424.Ok prog N := o_predtext_parser_next_v424.give tb_ok hm N N trivial fun a r s h => by
  exact s.main [] trivial (.trans (by kernel_rfl) h)
noncomputable def F_predtext_parser_place_v424 : Fn C_predtext_parser_place_v424 := ⟨f175, [], ⟨[], [], sbf, bof⟩, [], [true], none, 1, 0, fun _ _ => true, none⟩
theorem o_predtext_parser_place_v424 : F_predtext_parser_place_v424.Ok prog := ⟨Is.of (by kernel_rfl) (by kernel_rfl), by kernel_rfl, hint_sb sb_ok bo_ok, trivial, trivial, fun _ => by kernel_rfl⟩
theorem c_predtext_parser_place_v424 (N : Nat) : C_predtext_parser_place_v424.Ok prog N := o_predtext_parser_place_v424.give tb_ok hm N N trivial fun a r s h => by
  exact s.main [] trivial (.trans (by kernel_rfl) h)
noncomputable def F_predtext_parser_fail_v927 : Fn C_predtext_parser_fail_v927 := ⟨f195, [], ⟨[], [], sbf, bof⟩, [C_predtext_parser_place_v424], [], none, 1, 0, fun _ _ => true, none⟩
theorem o_predtext_parser_fail_v927 : F_predtext_parser_fail_v927.Ok prog := ⟨Is.of (by kernel_rfl) (by kernel_rfl), by kernel_rfl, hint_sb sb_ok bo_ok, trivial, trivial, fun _ => by kernel_rfl⟩
theorem c_predtext_parser_fail_v927 (N : Nat) : C_predtext_parser_fail_v927.Ok prog N := o_predtext_parser_fail_v927.give tb_ok hm N N ⟨c_predtext_parser_place_v424 N, trivial⟩ fun a r s h => by
  exact s.main [] trivial (.trans (by kernel_rfl) h)
noncomputable def F_predtext_parser_deeper_v927 : Fn C_predtext_parser_deeper_v927 := ⟨f194, [], ⟨[], [], sbf, bof⟩, [C_predtext_parser_next_v424, C_predtext_parser_fail_v927], [], none, 1, 0, fun _ _ => true, none⟩
theorem o_predtext_parser_deeper_v927 : F_predtext_parser_deeper_v927.Ok prog := ⟨Is.of (by kernel_rfl) (by kernel_rfl), by kernel_rfl, hint_sb sb_ok bo_ok, trivial, trivial, fun _ => by kernel_rfl⟩
theorem c_predtext_parser_deeper_v927 (N : Nat) : C_predtext_parser_deeper_v927.Ok prog N := o_predtext_parser_deeper_v927.give tb_ok hm N N ⟨c_predtext_parser_next_v424 N, c_predtext_parser_fail_v927 N, trivial⟩ fun a r s h => by
  exact s.main [] trivial (.trans (by kernel_rfl) h)
noncomputable def F_predtext_parser_eat_v368 : Fn C_predtext_parser_eat_v368 := ⟨f184, [], ⟨[], [], sbf, bof⟩, [C_predtext_parser_next_v424], [true], none, 1, 0, fun _ _ => true, none⟩
theorem o_predtext_parser_eat_v368 : F_predtext_parser_eat_v368.Ok prog := ⟨Is.of (by kernel_rfl) (by kernel_rfl), by kernel_rfl, hint_sb sb_ok bo_ok, trivial, trivial, fun _ => by kernel_rfl⟩
theorem c_predtext_parser_eat_v368 (N : Nat) : C_predtext_parser_eat_v368.Ok prog N := o_predtext_parser_eat_v368.give tb_ok hm N N ⟨c_predtext_parser_next_v424 N, trivial⟩ fun a r s h => by
  exact s.main [] trivial (.trans (by kernel_rfl) h)
end
end
section
open Go.Proofs.Tryz
set_option maxRecDepth 1000000
noncomputable section
noncomputable def F_slices_Concat_pred_Node : Fn C_slices_Concat_pred_Node := ⟨f189, [], ⟨[], [], sbf, bof⟩, [C_slices_Grow_pred_Node_own], [true], none, 0, 0, fun _ _ => true, none⟩
theorem o_slices_Concat_pred_Node : F_slices_Concat_pred_Node.Ok prog := ⟨Is.of (by kernel_rfl) (by kernel_rfl), by kernel_rfl, hint_sb sb_ok bo_ok, trivial, trivial, fun _ => by kernel_rfl⟩
theorem c_slices_Concat_pred_Node (N : Nat) : C_slices_Concat_pred_Node.Ok prog N := o_slices_Concat_pred_Node.give tb_ok hm N N ⟨c_slices_Grow_pred_Node_own N, trivial⟩ fun a r s h => by
  have l2 := s.loop 2 q_slices_Concat_pred_Node_2 (f_slices_Concat_pred_Node_2 N) N fun next2 h2 => by
    exact fun c v => s.seg 2 q_slices_Concat_pred_Node_2 [(2, .of q_slices_Concat_pred_Node_2 next2)] ⟨h2, trivial⟩ (by kernel_rfl) (by kernel_rfl)
  have l0 := s.loop 0 q_slices_Concat_pred_Node_0 (f_slices_Concat_pred_Node_0 N) N fun next0 h0 => by
    exact fun c v => s.seg 0 q_slices_Concat_pred_Node_0 [(0, .of q_slices_Concat_pred_Node_0 next0), (2, .of q_slices_Concat_pred_Node_2 (r_slices_Concat_pred_Node_2 N))] ⟨h0, l2, trivial⟩ (by kernel_rfl) (by kernel_rfl)
  exact s.main [(0, .of q_slices_Concat_pred_Node_0 (r_slices_Concat_pred_Node_0 N))] ⟨l0, trivial⟩ (.trans (by kernel_rfl) h)
noncomputable def F_predtext_above : Fn C_predtext_above := ⟨f185, [], ⟨[(6, 3)], [], sbf, bof⟩, [C_slices_Concat_pred_Node], [true], none, 0, 0, fun _ _ => true, none⟩
theorem o_predtext_above : F_predtext_above.Ok prog := ⟨Is.of (by kernel_rfl) (by kernel_rfl), by kernel_rfl, hint_sb sb_ok bo_ok, trivial, trivial, fun _ => by kernel_rfl⟩
theorem c_predtext_above (N : Nat) : C_predtext_above.Ok prog N := o_predtext_above.give tb_ok hm N N ⟨c_slices_Concat_pred_Node N, trivial⟩ fun a r s h => by
  exact s.main [] trivial (.trans (by kernel_rfl) h)
noncomputable def F_predtext_parser_take_v128 : Fn C_predtext_parser_take_v128 := ⟨f198, [], ⟨[], [], sbf, bof⟩, [C_predtext_parser_next_v424, C_predtext_parser_fail_v927], [true], none, 1, 0, fun _ _ => true, none⟩
theorem o_predtext_parser_take_v128 : F_predtext_parser_take_v128.Ok prog := ⟨Is.of (by kernel_rfl) (by kernel_rfl), by kernel_rfl, hint_sb sb_ok bo_ok, trivial, trivial, fun _ => by kernel_rfl⟩
theorem c_predtext_parser_take_v128 (N : Nat) : C_predtext_parser_take_v128.Ok prog N := o_predtext_parser_take_v128.give tb_ok hm N N ⟨c_predtext_parser_next_v424 N, c_predtext_parser_fail_v927 N, trivial⟩ fun a r s h => by
  exact s.main [] trivial (.trans (by kernel_rfl) h)
noncomputable def F_predtext_parser_unit_v424 : Fn C_predtext_parser_unit_v424 := ⟨f202, [], ⟨[(24, 3), (40, 3), (51, 3), (54, 3)], [], sbf, bof⟩, [C_predtext_parser_eat_v368, C_predtext_parser_next_v424, C_predtext_parser_fail_v927, C_predtext_parser_take_v128], [true], none, 1, 0, fun _ _ => true, none⟩
theorem o_predtext_parser_unit_v424 : F_predtext_parser_unit_v424.Ok prog := ⟨Is.of (by kernel_rfl) (by kernel_rfl), by kernel_rfl, hint_sb sb_ok bo_ok, trivial, trivial, fun _ => by kernel_rfl⟩
theorem c_predtext_parser_unit_v424 (N : Nat) : C_predtext_parser_unit_v424.Ok prog N := o_predtext_parser_unit_v424.give tb_ok hm N N ⟨c_predtext_parser_eat_v368 N, c_predtext_parser_next_v424 N, c_predtext_parser_fail_v927 N, c_predtext_parser_take_v128 N, trivial⟩ fun a r s h => by
  exact s.main [] trivial (.trans (by kernel_rfl) h)
noncomputable def F_predtext_parser_sum_v424 : Fn C_predtext_parser_sum_v424 := ⟨f196, [], ⟨[(14, 4), (23, 4)], [], sbf, bof⟩, [C_predtext_parser_unit_v424, C_predtext_parser_eat_v368, C_predtext_above], [true], none, 1, 0, fun _ _ => true, none⟩
theorem o_predtext_parser_sum_v424 : F_predtext_parser_sum_v424.Ok prog := ⟨Is.of (by kernel_rfl) (by kernel_rfl), by kernel_rfl, hint_sb sb_ok bo_ok, trivial, trivial, fun _ => by kernel_rfl⟩
theorem c_predtext_parser_sum_v424 (N : Nat) : C_predtext_parser_sum_v424.Ok prog N := o_predtext_parser_sum_v424.give tb_ok hm N N ⟨c_predtext_parser_unit_v424 N, c_predtext_parser_eat_v368 N, c_predtext_above N, trivial⟩ fun a r s h => by
  have l0 := s.loop 0 q_predtext_parser_sum_v424_0 (f_predtext_parser_sum_v424_0 N) N fun next0 h0 => by
    exact fun c v => s.seg 0 q_predtext_parser_sum_v424_0 [(0, .of q_predtext_parser_sum_v424_0 next0)] ⟨h0, trivial⟩ (by kernel_rfl) (by kernel_rfl)
  exact s.main [(0, .of q_predtext_parser_sum_v424_0 (r_predtext_parser_sum_v424_0 N))] ⟨l0, trivial⟩ (.trans (by kernel_rfl) h)
noncomputable def F_compare_Sign : Fn C_compare_Sign := ⟨f143, [], ⟨[], [], sbf, bof⟩, [], [true], none, 0, 0, fun _ _ => true, none⟩
theorem o_compare_Sign : F_compare_Sign.Ok prog := ⟨Is.of (by kernel_rfl) (by kernel_rfl), by kernel_rfl, hint_sb sb_ok bo_ok, trivial, trivial, fun _ => by kernel_rfl⟩
theorem c_compare_Sign (N : Nat) : C_compare_Sign.Ok prog N := o_compare_Sign.give tb_ok hm N N trivial fun a r s h => by
  exact s.main [] trivial (.trans (by kernel_rfl) h)
noncomputable def F_compare_Op : Fn C_compare_Op := ⟨f197, [], ⟨[], [], sbf, bof⟩, [C_compare_Sign], [true], none, 0, 0, fun _ _ => true, none⟩
theorem o_compare_Op : F_compare_Op.Ok prog := ⟨Is.of (by kernel_rfl) (by kernel_rfl), by kernel_rfl, hint_sb sb_ok bo_ok, trivial, trivial, fun _ => by kernel_rfl⟩
theorem c_compare_Op (N : Nat) : C_compare_Op.Ok prog N := o_compare_Op.give tb_ok hm N N ⟨c_compare_Sign N, trivial⟩ fun a r s h => by
  have l0 := s.loop 0 q_compare_Op_0 (f_compare_Op_0 N) N fun next0 h0 => by
    exact fun c v => s.seg 0 q_compare_Op_0 [(0, .of q_compare_Op_0 next0)] ⟨h0, trivial⟩ (by kernel_rfl) (by kernel_rfl)
  exact s.main [(0, .of q_compare_Op_0 (r_compare_Op_0 N))] ⟨l0, trivial⟩ (.trans (by kernel_rfl) h)
noncomputable def F_predtext_parser_or_v927 : Fn C_predtext_parser_or_v927 := ⟨f177, [], ⟨[(16, 4)], [], sbf, bof⟩, [C_predtext_parser_and_v927, C_predtext_parser_eat_v368, C_predtext_above], [true], none, 1, 0, fun _ _ => true, none⟩
theorem o_predtext_parser_or_v927 : F_predtext_parser_or_v927.Ok prog := ⟨Is.of (by kernel_rfl) (by kernel_rfl), by kernel_rfl, hint_sb sb_ok bo_ok, trivial, trivial, fun _ => by kernel_rfl⟩
noncomputable def F_predtext_parser_and_v927 : Fn C_predtext_parser_and_v927 := ⟨f183, [], ⟨[(16, 4)], [], sbf, bof⟩, [C_predtext_parser_part_v927, C_predtext_parser_eat_v368, C_predtext_above], [true], none, 1, 0, fun _ _ => true, none⟩
theorem o_predtext_parser_and_v927 : F_predtext_parser_and_v927.Ok prog := ⟨Is.of (by kernel_rfl) (by kernel_rfl), by kernel_rfl, hint_sb sb_ok bo_ok, trivial, trivial, fun _ => by kernel_rfl⟩
noncomputable def F_predtext_parser_part_v927 : Fn C_predtext_parser_part_v927 := ⟨f187, [], ⟨[(18, 4), (49, 4)], [], sbf, bof⟩, [C_predtext_parser_deeper_v927, C_predtext_parser_eat_v368, C_predtext_parser_part_v927, C_predtext_above, C_predtext_parser_or_v927, C_predtext_parser_fail_v927, C_predtext_parser_sum_v424, C_predtext_parser_next_v424, C_compare_Op, C_predtext_parser_take_v128], [true], none, 1, 0, fun _ _ => true, none⟩
theorem o_predtext_parser_part_v927 : F_predtext_parser_part_v927.Ok prog := ⟨Is.of (by kernel_rfl) (by kernel_rfl), by kernel_rfl, hint_sb sb_ok bo_ok, trivial, trivial, fun _ => by kernel_rfl⟩
theorem cs_predtext_parser_or_v927 : ∀ N, C_predtext_parser_or_v927.Ok prog N ∧ C_predtext_parser_and_v927.Ok prog N ∧ C_predtext_parser_part_v927.Ok prog N
  | 0 => ⟨⟨o_predtext_parser_or_v927.is.enters, fun a r h => by (have h : none = some r := h; cases h)⟩, ⟨o_predtext_parser_and_v927.is.enters, fun a r h => by (have h : none = some r := h; cases h)⟩, ⟨o_predtext_parser_part_v927.is.enters, fun a r h => by (have h : none = some r := h; cases h)⟩⟩
  | N + 1 => by
    obtain ⟨h_predtext_parser_or_v927, h_predtext_parser_and_v927, h_predtext_parser_part_v927⟩ := cs_predtext_parser_or_v927 N
    refine ⟨?_, ?_, ?_⟩
    · exact o_predtext_parser_or_v927.give tb_ok hm N (N + 1) ⟨h_predtext_parser_and_v927, c_predtext_parser_eat_v368 N, c_predtext_above N, trivial⟩ fun a r s h => by
        have l0 := s.loop 0 q_predtext_parser_or_v927_0 (f_predtext_parser_or_v927_0 N) N fun next0 h0 => by
          exact fun c v => s.seg 0 q_predtext_parser_or_v927_0 [(0, .of q_predtext_parser_or_v927_0 next0)] ⟨h0, trivial⟩ (by kernel_rfl) (by kernel_rfl)
        exact s.main [(0, .of q_predtext_parser_or_v927_0 (r_predtext_parser_or_v927_0 N))] ⟨l0, trivial⟩ (.trans (by kernel_rfl) h)
    · exact o_predtext_parser_and_v927.give tb_ok hm N (N + 1) ⟨h_predtext_parser_part_v927, c_predtext_parser_eat_v368 N, c_predtext_above N, trivial⟩ fun a r s h => by
        have l0 := s.loop 0 q_predtext_parser_and_v927_0 (f_predtext_parser_and_v927_0 N) N fun next0 h0 => by
          exact fun c v => s.seg 0 q_predtext_parser_and_v927_0 [(0, .of q_predtext_parser_and_v927_0 next0)] ⟨h0, trivial⟩ (by kernel_rfl) (by kernel_rfl)
        exact s.main [(0, .of q_predtext_parser_and_v927_0 (r_predtext_parser_and_v927_0 N))] ⟨l0, trivial⟩ (.trans (by kernel_rfl) h)
    · exact o_predtext_parser_part_v927.give tb_ok hm N (N + 1) ⟨c_predtext_parser_deeper_v927 N, c_predtext_parser_eat_v368 N, h_predtext_parser_part_v927, c_predtext_above N, h_predtext_parser_or_v927, c_predtext_parser_fail_v927 N, c_predtext_parser_sum_v424 N, c_predtext_parser_next_v424 N, c_compare_Op N, c_predtext_parser_take_v128 N, trivial⟩ fun a r s h => by
        exact s.main [] trivial (.trans (by kernel_rfl) h)
theorem c_predtext_parser_or_v927 (N : Nat) : C_predtext_parser_or_v927.Ok prog N := (cs_predtext_parser_or_v927 N).1
noncomputable def F_pred_Node_stands : Fn C_pred_Node_stands := ⟨f155, [], ⟨[], [], sbf, bof⟩, [], [true], none, 0, 0, fun _ _ => true, none⟩
theorem o_pred_Node_stands : F_pred_Node_stands.Ok prog := ⟨Is.of (by kernel_rfl) (by kernel_rfl), by kernel_rfl, hint_sb sb_ok bo_ok, trivial, trivial, fun _ => by kernel_rfl⟩
theorem c_pred_Node_stands (N : Nat) : C_pred_Node_stands.Ok prog N := o_pred_Node_stands.give tb_ok hm N N trivial fun a r s h => by
  exact s.main [] trivial (.trans (by kernel_rfl) h)
noncomputable def F_schema_letter : Fn C_schema_letter := ⟨f82, [], ⟨[], [], sbf, bof⟩, [], [true], none, 0, 0, fun _ _ => true, none⟩
theorem o_schema_letter : F_schema_letter.Ok prog := ⟨Is.of (by kernel_rfl) (by kernel_rfl), by kernel_rfl, hint_sb sb_ok bo_ok, trivial, trivial, fun _ => by kernel_rfl⟩
theorem c_schema_letter (N : Nat) : C_schema_letter.Ok prog N := o_schema_letter.give tb_ok hm N N trivial fun a r s h => by
  exact s.main [] trivial (.trans (by kernel_rfl) h)
noncomputable def F_schema_tail : Fn C_schema_tail := ⟨f84, [], ⟨[], [], sbf, bof⟩, [C_schema_letter], [true], none, 0, 0, fun _ _ => true, none⟩
theorem o_schema_tail : F_schema_tail.Ok prog := ⟨Is.of (by kernel_rfl) (by kernel_rfl), by kernel_rfl, hint_sb sb_ok bo_ok, trivial, trivial, fun _ => by kernel_rfl⟩
theorem c_schema_tail (N : Nat) : C_schema_tail.Ok prog N := o_schema_tail.give tb_ok hm N N ⟨c_schema_letter N, trivial⟩ fun a r s h => by
  exact s.main [] trivial (.trans (by kernel_rfl) h)
noncomputable def F_schema_Name : Fn C_schema_Name := ⟨f48, [], ⟨[], [], sbf, bof⟩, [C_schema_letter, C_schema_Reserved, C_schema_tail], [true], none, 0, 0, fun _ _ => true, none⟩
theorem o_schema_Name : F_schema_Name.Ok prog := ⟨Is.of (by kernel_rfl) (by kernel_rfl), by kernel_rfl, hint_sb sb_ok bo_ok, trivial, trivial, fun _ => by kernel_rfl⟩
theorem c_schema_Name (N : Nat) : C_schema_Name.Ok prog N := o_schema_Name.give tb_ok hm N N ⟨c_schema_letter N, c_schema_Reserved N, c_schema_tail N, trivial⟩ fun a r s h => by
  have l0 := s.loop 0 q_schema_Name_0 (f_schema_Name_0 N) N fun next0 h0 => by
    exact fun c v => s.seg 0 q_schema_Name_0 [(0, .of q_schema_Name_0 next0)] ⟨h0, trivial⟩ (by kernel_rfl) (by kernel_rfl)
  exact s.main [(0, .of q_schema_Name_0 (r_schema_Name_0 N))] ⟨l0, trivial⟩ (.trans (by kernel_rfl) h)
end
end
section
open Go.Proofs.Tryz
set_option maxRecDepth 1000000
noncomputable section
noncomputable def F_value_core : Fn C_value_core := ⟨f144, [], ⟨[], [], sbf, bof⟩, [], [false], none, 0, 0, fun _ _ => true, none⟩
theorem o_value_core : F_value_core.Ok prog := ⟨Is.of (by kernel_rfl) (by kernel_rfl), by kernel_rfl, hint_sb sb_ok bo_ok, trivial, trivial, fun _ => by kernel_rfl⟩
theorem c_value_core (N : Nat) : C_value_core.Ok prog N := o_value_core.give tb_ok hm N N trivial fun a r s h => by
  exact s.main [] trivial (.trans (by kernel_rfl) h)
noncomputable def F_value_number_whole : Fn C_value_number_whole := ⟨f237, [], ⟨[], [], sbf, bof⟩, [], [true], none, 0, 0, fun _ _ => true, none⟩
theorem o_value_number_whole : F_value_number_whole.Ok prog := ⟨Is.of (by kernel_rfl) (by kernel_rfl), by kernel_rfl, hint_sb sb_ok bo_ok, trivial, trivial, fun _ => by kernel_rfl⟩
theorem c_value_number_whole (N : Nat) : C_value_number_whole.Ok prog N := o_value_number_whole.give tb_ok hm N N trivial fun a r s h => by
  exact s.main [] trivial (.trans (by kernel_rfl) h)
noncomputable def F_value_flag_whole : Fn C_value_flag_whole := ⟨f238, [], ⟨[], [], sbf, bof⟩, [], [true], none, 0, 0, fun _ _ => true, none⟩
theorem o_value_flag_whole : F_value_flag_whole.Ok prog := ⟨Is.of (by kernel_rfl) (by kernel_rfl), by kernel_rfl, hint_sb sb_ok bo_ok, trivial, trivial, fun _ => by kernel_rfl⟩
theorem c_value_flag_whole (N : Nat) : C_value_flag_whole.Ok prog N := o_value_flag_whole.give tb_ok hm N N trivial fun a r s h => by
  exact s.main [] trivial (.trans (by kernel_rfl) h)
noncomputable def F_value_double_whole : Fn C_value_double_whole := ⟨f239, [], ⟨[], [], sbf, bof⟩, [], [true], none, 0, 0, fun _ _ => true, none⟩
theorem o_value_double_whole : F_value_double_whole.Ok prog := ⟨Is.of (by kernel_rfl) (by kernel_rfl), by kernel_rfl, hint_sb sb_ok bo_ok, trivial, trivial, fun _ => by kernel_rfl⟩
theorem c_value_double_whole (N : Nat) : C_value_double_whole.Ok prog N := o_value_double_whole.give tb_ok hm N N trivial fun a r s h => by
  exact s.main [] trivial (.trans (by kernel_rfl) h)
noncomputable def F_value_words_whole : Fn C_value_words_whole := ⟨f240, [], ⟨[], [], sbf, bof⟩, [], [true], none, 0, 0, fun _ _ => true, none⟩
theorem o_value_words_whole : F_value_words_whole.Ok prog := ⟨Is.of (by kernel_rfl) (by kernel_rfl), by kernel_rfl, hint_sb sb_ok bo_ok, trivial, trivial, fun _ => by kernel_rfl⟩
theorem c_value_words_whole (N : Nat) : C_value_words_whole.Ok prog N := o_value_words_whole.give tb_ok hm N N trivial fun a r s h => by
  exact s.main [] trivial (.trans (by kernel_rfl) h)
noncomputable def F_value_Check : Fn C_value_Check := ⟨f112, [], ⟨[], [], sbf, bof⟩, [C_value_core, C_value_number_whole, C_value_flag_whole, C_real_Clean, C_value_double_whole, C_value_words_whole], [true], none, 0, 0, fun _ _ => true, none⟩
theorem o_value_Check : F_value_Check.Ok prog := ⟨Is.of (by kernel_rfl) (by kernel_rfl), by kernel_rfl, hint_sb sb_ok bo_ok, trivial, trivial, fun _ => by kernel_rfl⟩
theorem c_value_Check (N : Nat) : C_value_Check.Ok prog N := o_value_Check.give tb_ok hm N N ⟨c_value_core N, c_value_number_whole N, c_value_flag_whole N, c_real_Clean N, c_value_double_whole N, c_value_words_whole N, trivial⟩ fun a r s h => by
  exact s.main [] trivial (.trans (by kernel_rfl) h)
noncomputable def F_pred_Node_lacks : Fn C_pred_Node_lacks := ⟨f157, [], ⟨[], [], sbf, bof⟩, [C_compare_Sign, C_schema_Name, C_value_Check], [true], none, 0, 0, fun _ _ => true, none⟩
theorem o_pred_Node_lacks : F_pred_Node_lacks.Ok prog := ⟨Is.of (by kernel_rfl) (by kernel_rfl), by kernel_rfl, hint_sb sb_ok bo_ok, trivial, trivial, fun _ => by kernel_rfl⟩
theorem c_pred_Node_lacks (N : Nat) : C_pred_Node_lacks.Ok prog N := o_pred_Node_lacks.give tb_ok hm N N ⟨c_compare_Sign N, c_schema_Name N, c_value_Check N, trivial⟩ fun a r s h => by
  exact s.main [] trivial (.trans (by kernel_rfl) h)
noncomputable def F_pred_is_v782 : Fn C_pred_is_v782 := ⟨f156, [], ⟨[], [], sbf, bof⟩, [C_pred_Node_lacks], [true], none, 0, 0, fun _ _ => true, none⟩
theorem o_pred_is_v782 : F_pred_is_v782.Ok prog := ⟨Is.of (by kernel_rfl) (by kernel_rfl), by kernel_rfl, hint_sb sb_ok bo_ok, trivial, trivial, fun _ => by kernel_rfl⟩
theorem c_pred_is_v782 (N : Nat) : C_pred_is_v782.Ok prog N := o_pred_is_v782.give tb_ok hm N N ⟨c_pred_Node_lacks N, trivial⟩ fun a r s h => by
  exact s.main [] trivial (.trans (by kernel_rfl) h)
noncomputable def F_pred_is_v272 : Fn C_pred_is_v272 := ⟨f156, [], ⟨[], [], sbf, bof⟩, [C_pred_Node_more], [true], none, 0, 0, fun _ _ => true, none⟩
theorem o_pred_is_v272 : F_pred_is_v272.Ok prog := ⟨Is.of (by kernel_rfl) (by kernel_rfl), by kernel_rfl, hint_sb sb_ok bo_ok, trivial, trivial, fun _ => by kernel_rfl⟩
theorem c_pred_is_v272 (N : Nat) : C_pred_is_v272.Ok prog N := o_pred_is_v272.give tb_ok hm N N ⟨c_pred_Node_more N, trivial⟩ fun a r s h => by
  exact s.main [] trivial (.trans (by kernel_rfl) h)
noncomputable def F_pred_Kids : Fn C_pred_Kids := ⟨f159, [], ⟨[], [], sbf, bof⟩, [], [true], none, 0, 0, fun _ _ => true, none⟩
theorem o_pred_Kids : F_pred_Kids.Ok prog := ⟨Is.of (by kernel_rfl) (by kernel_rfl), by kernel_rfl, hint_sb sb_ok bo_ok, trivial, trivial, fun _ => by kernel_rfl⟩
theorem c_pred_Kids (N : Nat) : C_pred_Kids.Ok prog N := o_pred_Kids.give tb_ok hm N N trivial fun a r s h => by
  exact s.main [] trivial (.trans (by kernel_rfl) h)
noncomputable def F_pred_Node_kid : Fn C_pred_Node_kid := ⟨f160, [], ⟨[], [], sbf, bof⟩, [], [true], none, 0, 0, fun _ _ => true, none⟩
theorem o_pred_Node_kid : F_pred_Node_kid.Ok prog := ⟨Is.of (by kernel_rfl) (by kernel_rfl), by kernel_rfl, hint_sb sb_ok bo_ok, trivial, trivial, fun _ => by kernel_rfl⟩
theorem c_pred_Node_kid (N : Nat) : C_pred_Node_kid.Ok prog N := o_pred_Node_kid.give tb_ok hm N N trivial fun a r s h => by
  exact s.main [] trivial (.trans (by kernel_rfl) h)
noncomputable def F_pred_checker_tree_v739 : Fn C_pred_checker_tree_v739 := ⟨f140, [], ⟨[], [], sbf, bof⟩, [C_pred_Node_stands, C_pred_is_v782, C_pred_is_v272, C_pred_Kids, C_pred_Node_kid, C_pred_checker_tree_v739], [true], none, 1, 0, fun _ _ => true, none⟩
theorem o_pred_checker_tree_v739 : F_pred_checker_tree_v739.Ok prog := ⟨Is.of (by kernel_rfl) (by kernel_rfl), by kernel_rfl, hint_sb sb_ok bo_ok, trivial, trivial, fun _ => by kernel_rfl⟩
theorem cs_pred_checker_tree_v739 : ∀ N, C_pred_checker_tree_v739.Ok prog N
  | 0 => ⟨o_pred_checker_tree_v739.is.enters, fun a r h => by (have h : none = some r := h; cases h)⟩
  | N + 1 => by
    obtain h_pred_checker_tree_v739 := cs_pred_checker_tree_v739 N
    · exact o_pred_checker_tree_v739.give tb_ok hm N (N + 1) ⟨c_pred_Node_stands N, c_pred_is_v782 N, c_pred_is_v272 N, c_pred_Kids N, c_pred_Node_kid N, h_pred_checker_tree_v739, trivial⟩ fun a r s h => by
        have l0 := s.loop 0 q_pred_checker_tree_v739_0 (f_pred_checker_tree_v739_0 N) N fun next0 h0 => by
          exact fun c v => s.seg 0 q_pred_checker_tree_v739_0 [(0, .of q_pred_checker_tree_v739_0 next0)] ⟨h0, trivial⟩ (by kernel_rfl) (by kernel_rfl)
        exact s.main [(0, .of q_pred_checker_tree_v739_0 (r_pred_checker_tree_v739_0 N))] ⟨l0, trivial⟩ (.trans (by kernel_rfl) h)
theorem c_pred_checker_tree_v739 (N : Nat) : C_pred_checker_tree_v739.Ok prog N := (cs_pred_checker_tree_v739 N)
noncomputable def F_pred_Check : Fn C_pred_Check := ⟨f110, [], ⟨[], [], sbf, bof⟩, [C_pred_checker_tree_v739], [true], none, 0, 0, fun _ _ => true, none⟩
theorem o_pred_Check : F_pred_Check.Ok prog := ⟨Is.of (by kernel_rfl) (by kernel_rfl), by kernel_rfl, hint_sb sb_ok bo_ok, trivial, trivial, fun _ => by kernel_rfl⟩
theorem c_pred_Check (N : Nat) : C_pred_Check.Ok prog N := o_pred_Check.give tb_ok hm N N ⟨c_pred_checker_tree_v739 N, trivial⟩ fun a r s h => by
  exact s.main [] trivial (.trans (by kernel_rfl) h)
end
end
end Go.Proofs.YtahklhniofiofaaGreatDoor.D
