/- pred.Node.more, walked. No premise beyond what each theorem says. -/
import Derived.Test.YtbioikdfpfafaaaGreatDoorRG2
import Derived.WalkKit
import Derived.WalkLawsBesides
import Derived.Deep.RegionHeld3
import Derived.Lib.Walk
import Derived.Lib.SliceRun
import Derived.Lib.AppendZerosOnto
import Derived.LaidEql
import Derived.Stop.Asserts
import Derived.RowKitTokens
set_option linter.all false
set_option linter.unusedSimpArgs false
set_option linter.unusedVariables false
set_option linter.unusedVariables false
set_option linter.unusedSimpArgs false
namespace Go.Proofs.YtbioikdfpfafaaaGreatDoor.R
open Go Go.RowKit Go.Proofs.Tryz
set_option maxHeartbeats 4000000
set_option maxRecDepth 1000000
theorem xZfs {M : Maps} {S : Nat → Prop} {w : World} {v : Value} {l : List Value} (h : VRep M S w v (.agg (l.map .v))) : v = .agg l.toArray := by
  have key : ∀ vs : Array Value, vs.size = (l.map AV.v).length → (∀ i, i < (l.map AV.v).length → VRep M S w (vs.getD i undef) ((l.map AV.v).getD i .any)) → vs = l.toArray := fun vs hn hall => by
    rw [List.length_map] at hn
    refine Array.ext (by simpa using hn) fun i h1 h2 => ?_
    have hi : i < l.length := by omega
    have q := hall i (by simpa using hi)
    rw [show (l.map AV.v).getD i .any = .v l[i] by simp [List.getD, hi]] at q
    have := q.v_eq
    simpa [Array.getD, h1] using this
  cases h with
  | data h => cases h with | agg vs _ hn hall => exact congrArg _ (key vs hn fun i hi => .data (hall i hi))
  | agg vs _ hn hall => exact congrArg _ (key vs hn hall)
theorem xZc0 (w : World) (a b : Obj) : Grew w ((w.alloc a).alloc b) := ⟨rfl, rfl, rfl, by simp; omega, fun g h => (xZ20 _ _ g (by simp; omega)).trans (xZ20 _ _ g h)⟩
theorem xZhZ (w : World) (a b : Obj) : Grew w ((w.alloc a).alloc b).drew := ⟨rfl, rfl, rfl, by simp; omega, fun g h => (xZ20 _ _ g (by simp; omega)).trans (xZ20 _ _ g h)⟩
theorem xZbE (l : List UInt8) : (bs l).toList = [] ↔ l = [] := by simp [bs]
theorem xZot (o vk vn vb : Int) (va na vt : List UInt8) (w : World) :
    Calls Tryz.prog 186 #[.agg #[.int .u8 4, .int .u8 o, .string (bs va), .string (bs na), .int .u8 vk, .int .i64 vn, .int .u64 vb, .string (bs vt)]] w fun e w' => (∃ b, e = .returned (.bool b) ∧ (b = false ↔ (va = [] ∧ na = [] ∧ 0 = vk ∧ 0 = vn ∧ 0 = vb ∧ vt = []))) ∧ Grew w w' := by
  rw [← xZbE vt, ← xZbE va, ← xZbE na]
  go_enter Tryz.func186, Tryz.ntmps186
  go_wp2
  all_goals
    go_ret
    refine ⟨⟨_, rfl, ?_⟩, xZc0 _ _ _⟩
    simp_all
theorem xZoC (o vk vn vb : Int) (va na vt : List UInt8) (w : World) :
    Calls Tryz.prog 186 #[.agg #[.int .u8 7, .int .u8 o, .string (bs va), .string (bs na), .int .u8 vk, .int .i64 vn, .int .u64 vb, .string (bs vt)]] w fun e w' => (∃ b, e = .returned (.bool b) ∧ (b = false ↔ (0 = o ∧ va = [] ∧ 0 = vk ∧ 0 = vn ∧ 0 = vb ∧ vt = []))) ∧ Grew w w' := by
  rw [← xZbE vt, ← xZbE va]
  go_enter Tryz.func186, Tryz.ntmps186
  go_wp2
  all_goals
    go_ret
    refine ⟨⟨_, rfl, ?_⟩, xZc0 _ _ _⟩
    simp_all
theorem xZpd (o vk vn vb : Int) (va na vt : List UInt8) (w : World) :
    Calls Tryz.prog 186 #[.agg #[.int .u8 8, .int .u8 o, .string (bs va), .string (bs na), .int .u8 vk, .int .i64 vn, .int .u64 vb, .string (bs vt)]] w fun e w' => (∃ b, e = .returned (.bool b) ∧ (b = false ↔ (0 = o ∧ 0 = vk ∧ 0 = vn ∧ 0 = vb ∧ vt = []))) ∧ Grew w w' := by
  rw [← xZbE vt]
  go_enter Tryz.func186, Tryz.ntmps186
  go_wp2
  go_region_held3 (fun w' => w'.cell? ⟨w.heap.size, 2, none⟩ = some (.string (bs va)) ∧ w'.cell? ⟨w.heap.size, 3, none⟩ = some (.string (bs na))) (go_keep) (fail)
  go_wp2
  all_goals
    go_ret
    refine ⟨⟨_, rfl, ?_⟩, xZhZ _ _ _⟩
    simp_all
theorem xZoo (o vk vn vb : Int) (va na vt : List UInt8) (w : World) :
    Calls Tryz.prog 186 #[.agg #[.int .u8 9, .int .u8 o, .string (bs va), .string (bs na), .int .u8 vk, .int .i64 vn, .int .u64 vb, .string (bs vt)]] w fun e w' => (∃ b, e = .returned (.bool b) ∧ (b = false ↔ (0 = o ∧ va = [] ∧ na = []))) ∧ Grew w w' := by
  rw [← xZbE va, ← xZbE na]
  go_enter Tryz.func186, Tryz.ntmps186
  go_wp2
  all_goals
    go_ret
    refine ⟨⟨_, rfl, ?_⟩, xZc0 _ _ _⟩
    simp_all
theorem xZoH (k : Int) (h4 : ¬ k = 4) (h7 : ¬ k = 7) (h8 : ¬ k = 8) (h9 : ¬ k = 9) (o vk vn vb : Int) (va na vt : List UInt8) (w : World) :
    Calls Tryz.prog 186 #[.agg #[.int .u8 k, .int .u8 o, .string (bs va), .string (bs na), .int .u8 vk, .int .i64 vn, .int .u64 vb, .string (bs vt)]] w fun e w' => (∃ b, e = .returned (.bool b) ∧ (b = false ↔ (0 = o ∧ va = [] ∧ na = [] ∧ 0 = vk ∧ 0 = vn ∧ 0 = vb ∧ vt = []))) ∧ Grew w w' := by
  rw [← xZbE vt, ← xZbE va, ← xZbE na]
  go_enter Tryz.func186, Tryz.ntmps186
  go_wp2
  all_goals
    go_ret
    refine ⟨⟨_, rfl, ?_⟩, xZc0 _ _ _⟩
    simp_all
theorem bf_eq {a b : Bool} {Q : Prop} (h1 : a = false ↔ Q) (h2 : b = false ↔ Q) : b = a := by cases a <;> cases b <;> simp_all
theorem xZ8z (N : Nat) : xZ5C.Ok prog N := by
  refine ⟨⟨Tryz.f186, Tryz.func186, by kernel_rfl, by kernel_rfl⟩, fun a r h => ?_⟩
  obtain ⟨n, ⟨⟩⟩ := a
  have h : some (moreB n) = some r := h
  obtain rfl := Option.some.inj h
  intro M S w vs hh _ hsz hrep
  obtain ⟨v, rfl⟩ : ∃ v, vs = #[v] := by
    match vs, hsz with
    | ⟨[v]⟩, _ => exact ⟨v, rfl⟩
  obtain ⟨k, o, va, na, vk, vn, vb, vt⟩ := n
  have h0 : VRep M S w v (.agg ([.int .u8 k, .int .u8 o, .string (bs va), .string (bs na), .int .u8 vk, .int .i64 vn, .int .u64 vb, .string (bs vt)].map .v)) := hrep 0 (Nat.zero_lt_one)
  obtain rfl := xZfs h0
  have fin : ∀ {k : Int} {Q : Prop}, (moreB ⟨k, o, va, na, ⟨vk, vn, vb, vt⟩⟩ = false ↔ Q) → ∀ e w', ((∃ b, e = .returned (.bool b) ∧ (b = false ↔ Q)) ∧ Grew w w') →
      ∃ M' S', EndRep M' S' w' e (.ret (.v (.bool (moreB ⟨k, o, va, na, ⟨vk, vn, vb, vt⟩⟩)))) ∧ RelH M' S' AH.nil w' ∧ Frm M S AH.nil w M' S' AH.nil w' := by
    rintro k Q hm e w' ⟨⟨b, rfl, hb⟩, hg⟩
    obtain rfl := bf_eq hm hb
    exact ⟨M, S, .data (.v _), hh.grew hg, .grew hh hg⟩
  by_cases h4 : k = 4
  · subst h4
    exact (xZot o vk vn vb va na vt w).mono (fin (by simp [moreB, moreZ, eq_comm (a := (0 : Int)), and_assoc]))
  by_cases h7 : k = 7
  · subst h7
    exact (xZoC o vk vn vb va na vt w).mono (fin (by simp [moreB, moreZ, eq_comm (a := (0 : Int)), and_assoc]))
  by_cases h8 : k = 8
  · subst h8
    exact (xZpd o vk vn vb va na vt w).mono (fin (by simp [moreB, moreZ, eq_comm (a := (0 : Int)), and_assoc]))
  by_cases h9 : k = 9
  · subst h9
    exact (xZoo o vk vn vb va na vt w).mono (fin (by simp [moreB, moreZ, eq_comm (a := (0 : Int)), and_assoc]))
  have e4 : (k == 4) = false := by simpa using h4
  have e7 : (k == 7) = false := by simpa using h7
  have e8 : (k == 8) = false := by simpa using h8
  have e9 : (k == 9) = false := by simpa using h9
  exact (xZoH k h4 h7 h8 h9 o vk vn vb va na vt w).mono (fin (by simp only [moreB, e4, e7, e8, e9, cond_false]; simp [moreZ, eq_comm (a := (0 : Int)), and_assoc]))
end Go.Proofs.YtbioikdfpfafaaaGreatDoor.R
set_option linter.unusedVariables false
set_option linter.unusedSimpArgs false
namespace Go.Proofs.YtbioikdfpfafaaaGreatDoor.R
open Go Go.RowKit Go.Lib Go.Proofs.Tryz
set_option maxHeartbeats 4000000
set_option maxRecDepth 1000000
theorem xZia (a : Option Addr) (w : World) : Calls Tryz.prog 220 #[.slice a 0 0, .int .i64 0] w fun e w' => e = .returned (.slice a 0 0) ∧ w' = w := by
  go_enter Tryz.func220, Tryz.ntmps220
  go_wp2
  go_ret
  exact ⟨rfl, rfl⟩
theorem xZiu (i0 : TypeInfo) (z : Value) (hu : Tryz.prog.underlying 50 = some (.slice 57)) (hi0 : Tryz.prog.info? 57 = some i0) (hz0 : i0.zero = some z) (hs0 : 0 < i0.size) (n : Nat) (h0 : 0 < n) (hbig : n * i0.bytes ≤ 140737488355328) (h63 : n ≤ 4611686018427387904) (a : Option Addr) (w : World) :
    Calls Tryz.prog 220 #[.slice a 0 0, .int .i64 n] w fun e w' => e = .returned (.slice (some ⟨w.heap.size, 0, none⟩) 0 (grownCap w n 0 57)) ∧
      w' = w.drew.alloc (.cells (#[] ++ Builtin.zeroCells z.cells n ++ Builtin.zeroCells z.cells (grownCap w n 0 57 - n)) 57) := by
  have h1 : ¬ ((n : Int) < 0) := by omega
  have h4 : (n : Int) > 0 := by omega
  have z25 : ∀ w, (Go.sizeOf 57).run Tryz.prog w = .ok i0.size w := fun w => by simp [Go.sizeOf, typeInfo, hi0]
  have hrz : ∀ ty, (Builtin.append_ #[50, 3] ty #[.slice a 0 0, .int .i64 n]).run Tryz.prog w =
      .ok (.slice (some ⟨w.heap.size, 0, none⟩) n (grownCap w n 0 57)) (w.drew.alloc (.cells (#[] ++ Builtin.zeroCells z.cells n ++ Builtin.zeroCells z.cells (grownCap w n 0 57 - n)) 57)) := fun ty => by
    have hold : (Builtin.firstCells i0.size 0 (.slice a 0 0)).run Tryz.prog w.drew = .ok ([] : List Value).toArray w.drew := by
      cases a with
      | none => exact run_firstCells_none w.drew i0.size 0 0 0
      | some a => exact run_firstCells_some w.drew i0.size 0 a 0 0 [] (by simp) (fun j v hj => by cases hj)
    have h := Lib.run_append_grow_zeros w 50 3 ty 57 i0 z .i64 .i64 hu Tryz.underlying3 hi0 hz0 a 0 0 [] hold n h0 hs0 (by omega) (by omega) (by omega) (by
      rw [Nat.zero_add]; exact growslice_fits (by omega) (by omega))
    rw [Nat.zero_add] at h
    exact h
  have hGn : n ≤ grownCap w n 0 57 := grownCap_ge w _ _ _
  obtain ⟨G, hG⟩ : ∃ G, G = grownCap w n 0 57 := ⟨_, rfl⟩
  rw [← hG] at hrz hGn ⊢
  have hG63 : G ≤ 9223372036854775807 := by
    have := grownCap_le_maxLen w n 0 57 (by unfold maxLen; omega)
    rw [← hG] at this
    unfold maxLen at this
    omega
  clear hG
  go_enter Tryz.func220, Tryz.ntmps220
  cases a with
  | none =>
    go_wp2_with (at_builtin; refine Lib.wpList_append_run _ rfl _ _ _ _ rfl _ _ rfl rfl _ _ (hrz _) ?_)
    all_goals (go_ret; exact ⟨rfl, rfl⟩)
  | some a =>
    obtain ⟨ab, ao, asp⟩ := a
    go_wp2_with (at_builtin; refine Lib.wpList_append_run _ rfl _ _ _ _ rfl _ _ rfl rfl _ _ (hrz _) ?_)
    all_goals (go_ret; exact ⟨rfl, rfl⟩)
theorem xZ3j (N : Nat) : xZ24.Ok prog N := by
  refine ⟨⟨Tryz.f220, Tryz.func220, by kernel_rfl, by kernel_rfl⟩, fun a r h => ?_⟩
  obtain ⟨⟨⟨⟩, n, ⟨⟩⟩, ⟨⟩, ⟨⟩⟩ := a
  have h : xZ1h N n = some r := h
  unfold xZ1h at h
  obtain ⟨hn0, h⟩ := xZ1H h
  obtain ⟨hnb, h⟩ := xZ1H h
  have hn0 := xZ16.1 hn0
  have hnb := xZ16.1 hnb
  obtain rfl := Option.some.inj h
  intro M S w vs hh _ hsz hrep
  obtain ⟨v, u, rfl⟩ : ∃ v u, vs = #[v, u] := by
    match vs, hsz with
    | ⟨[v, u]⟩, _ => exact ⟨v, u, rfl⟩
  obtain ⟨ad, rfl⟩ : ∃ ad, v = .slice ad 0 0 := by
    have q : VRep M S w v .emp := hrep 0 (Nat.zero_lt_succ 1)
    cases q with
    | data q => cases q; exact ⟨_, rfl⟩
  have e1 : u = .int .i64 n := VRep.v_eq (hrep 1 (Nat.lt_succ_self 1))
  subst e1
  obtain ⟨m, rfl⟩ : ∃ m : Nat, n = m := ⟨n.toNat, by omega⟩
  have fin : ∀ (g : Value) (w' : World), Grew w w' → LiveRep S w' g 8 [] → (∀ b, Value.blk g = some b → w.heap.size ≤ b) → (∃ a n c, g = .slice a n c) →
      ∃ M' S', EndRep M' S' w' (.returned g) (.ret (.own 0)) ∧ RelH M' S' ⟨[], [.live 8 []]⟩ w' ∧ Frm M S AH.nil w M' S' ⟨[], [.live 8 []]⟩ w' := by
    intro g w' hg hl hb hs
    obtain ⟨h1, h2⟩ := hh.addTok hg hl hb
    exact ⟨_, S, xZ5y hh.nt hs, h1, h2⟩
  by_cases hm : m = 0
  · subst hm
    refine (xZia ad w).mono ?_
    rintro e w' ⟨rfl, rfl⟩
    exact fin _ _ (.refl _) (.inl ⟨⟨_, rfl⟩, rfl⟩) (fun b hb => by cases ad <;> cases hb) ⟨_, _, _, rfl⟩
  · obtain ⟨ks, x, hx⟩ : ∃ ks x, cMk prog 50 ks = some (x, 8, 80) := ⟨[0, 0, 0, 0, 0, 0, 0, 0], eA4 (xZ1.mk 0 0 [] [] (xZ5.mk 0 0 0 [])), by kernel_rfl⟩
    obtain ⟨e, i, z, hu, hi, hz, q1, q2, q3, q4, hx⟩ := xZhp hx
    simp only [Prod.mk.injEq] at hx
    obtain ⟨-, hs8, hb80⟩ := hx
    have he : e = 57 := by
      have : prog.underlying 50 = some (.slice 57) := by kernel_rfl
      rw [this] at hu; cases hu; rfl
    subst he
    refine (xZiu i z hu hi hz q3 m (by omega) (by rw [← hb80]; omega) (by omega) ad w).mono ?_
    rintro e w' ⟨rfl, rfl⟩
    have hge := grownCap_ge w m 0 57
    have hle := grownCap_le_maxLen w m 0 57 (by unfold maxLen; omega)
    have hG := Grew.drew_alloc w (.cells (#[] ++ Builtin.zeroCells z.cells m ++ Builtin.zeroCells z.cells (grownCap w m 0 57 - m)) 57)
    generalize grownCap w m 0 57 = G at *
    obtain ⟨q, rfl⟩ : ∃ q, G = q + 1 := ⟨G - 1, by omega⟩
    refine fin _ _ hG (.inr ⟨w.heap.size, q, _, 57, rfl, fun h => by have := hh.sits _ h; omega, xZ3M _ _, ⟨Nat.zero_le _, hle, ?_, fun i hi => absurd hi (Nat.not_lt_zero _), fun i hi => absurd hi (Nat.not_lt_zero _), fun i hi => absurd hi (Nat.not_lt_zero _)⟩⟩) (fun b hb => by cases hb; exact Nat.le_refl _) ⟨_, _, _, rfl⟩
    rw [Array.size_append, Array.size_append, size_zeroCells, size_zeroCells, q2, ← hs8, Array.size_empty]
    omega
end Go.Proofs.YtbioikdfpfafaaaGreatDoor.R
namespace Go.Proofs.YtbioikdfpfafaaaGreatDoor.R
open Go Go.RowKit Go.Extern.Stop Go.Stop Go.Extern Go.Proofs.Tryz
set_option maxHeartbeats 4000000
set_option maxRecDepth 1000000
theorem xZeY (n p : Int) (h : n ≠ 0) (w : World) : Calls Tryz.prog 47 #[.int .i64 n, .int .i64 p] w fun e w' => e = .returned (.iface 172 (.pointer (some ⟨w.heap.size, 0, none⟩))) ∧ w' = w.alloc (.cells #[.int .i64 n, .int .i64 p] 181) := by
  go_enter Tryz.func47, Tryz.ntmps47
  go_wp2
  go_ret
  exact ⟨rfl, rfl⟩
end Go.Proofs.YtbioikdfpfafaaaGreatDoor.R
namespace Go.Proofs.YtbioikdfpfafaaaGreatDoor.R
open Go
open Go.Proofs.Tryz
set_option maxRecDepth 1000000
set_option linter.unusedSimpArgs false
set_option linter.unusedVariables false
noncomputable section
noncomputable def xZdB : Fn xZ8D := ⟨f43, [], ⟨[], [], sbf, bof⟩, fun _ => [], [true], none, 0, 0, fun _ _ => true, none, [], []⟩
theorem xZe6 : xZdB.Ok prog := ⟨Is.of (by kernel_rfl) (by kernel_rfl), by kernel_rfl, xZ4 sb_ok bo_ok, trivial, trivial, fun _ => by kernel_rfl⟩
theorem xZed (N : Nat) : xZ8D.Ok prog N := xZe6.give tb_ok hm N N (fun _ => trivial) fun a r s h => by
  exact s.main [] trivial (.trans (by kernel_rfl) h)
noncomputable def xZf2 : Fn xZ98 := ⟨f20, [], ⟨[], [], sbf, bof⟩, fun _ => [xZ8D], [true], none, 0, 0, fun _ _ => true, none, [], []⟩
theorem xZeP : xZf2.Ok prog := ⟨Is.of (by kernel_rfl) (by kernel_rfl), by kernel_rfl, xZ4 sb_ok bo_ok, trivial, trivial, fun _ => by kernel_rfl⟩
theorem xZfh (N : Nat) : xZ98.Ok prog N := xZeP.give tb_ok hm N N (fun _ => ⟨xZed N, trivial⟩) fun a r s h => by
  have l0 := s.loop 0 xZ5p (xZ9F N) N fun next0 h0 => by
    exact fun c v => s.seg 0 xZ5p [(0, .of xZ5p next0)] ⟨h0, trivial⟩ (by kernel_rfl) (by kernel_rfl)
  exact s.main [(0, .of xZ5p (xZd2 N))] ⟨l0, trivial⟩ (.trans (by kernel_rfl) h)
noncomputable def xZeX : Fn xZ9t := ⟨f7, [], ⟨[], [], sbf, bof⟩, fun _ => [xZ98], [true], none, 0, 0, fun _ _ => true, none, [], []⟩
theorem xZeS : xZeX.Ok prog := ⟨Is.of (by kernel_rfl) (by kernel_rfl), by kernel_rfl, xZ4 sb_ok bo_ok, trivial, trivial, fun _ => by kernel_rfl⟩
theorem xZfd (N : Nat) : xZ9t.Ok prog N := xZeS.give tb_ok hm N N (fun _ => ⟨xZfh N, trivial⟩) fun a r s h => by
  have l0 := s.loop 0 xZ5a (xZ9U N) N fun next0 h0 => by
    exact fun c v => s.seg 0 xZ5a [(0, .of xZ5a next0)] ⟨h0, trivial⟩ (by kernel_rfl) (by kernel_rfl)
  exact s.main [(0, .of xZ5a (xZcH N))] ⟨l0, trivial⟩ (.trans (by kernel_rfl) h)
theorem xZ3o (N : Nat) : xZ23.Ok prog N := xZl0 (te := 92) (tb := 4) (e := 95) (CloneIs.of (fn := f100) (by kernel_rfl) (by kernel_rfl) (by kernel_rfl) (by kernel_rfl) (by kernel_rfl) (by kernel_rfl) (by decide)) hm N
theorem xZ5c (N : Nat) : xZ2Q.Ok prog N := xZiD (te := 92) (tb := 4) (e := 95) (CloneIs.of (fn := f100) (by kernel_rfl) (by kernel_rfl) (by kernel_rfl) (by kernel_rfl) (by kernel_rfl) (by kernel_rfl) (by decide)) hm N
noncomputable def xZ5X : Fn xZg := ⟨f211, [], ⟨[], [], sbf, bof⟩, fun _ => [], [true], none, 1, 0, fun _ _ => true, none, [], []⟩
theorem xZ5Y : xZ5X.Ok prog := ⟨Is.of (by kernel_rfl) (by kernel_rfl), by kernel_rfl, xZ4 sb_ok bo_ok, trivial, trivial, fun _ => by kernel_rfl⟩
theorem xZI (N : Nat) : xZg.Ok prog N := xZ5Y.give tb_ok hm N N (fun _ => trivial) fun a r s h => by
  exact s.main [] trivial (.trans (by kernel_rfl) h)
noncomputable def xZ5A : Fn xZ1R := ⟨f201, [], ⟨[], [], sbf, bof⟩, fun _ => [], [true], none, 1, 0, fun _ _ => true, none, [], []⟩
theorem xZ5x : xZ5A.Ok prog := ⟨Is.of (by kernel_rfl) (by kernel_rfl), by kernel_rfl, xZ4 sb_ok bo_ok, trivial, trivial, fun _ => by kernel_rfl⟩
theorem xZ2Y (N : Nat) : xZ1R.Ok prog N := xZ5x.give tb_ok hm N N (fun _ => trivial) fun a r s h => by
  exact s.main [] trivial (.trans (by kernel_rfl) h)
noncomputable def xZ5Z : Fn xZn := ⟨f216, [], ⟨[], [], sbf, bof⟩, fun _ => [xZ1R], [], none, 1, 0, fun _ _ => true, none, [], []⟩
theorem xZ5S : xZ5Z.Ok prog := ⟨Is.of (by kernel_rfl) (by kernel_rfl), by kernel_rfl, xZ4 sb_ok bo_ok, trivial, trivial, fun _ => by kernel_rfl⟩
theorem xZ1c (N : Nat) : xZn.Ok prog N := xZ5S.give tb_ok hm N N (fun _ => ⟨xZ2Y N, trivial⟩) fun a r s h => by
  exact s.main [] trivial (.trans (by kernel_rfl) h)
noncomputable def xZ5m : Fn xZ1N := ⟨f215, [], ⟨[], [], sbf, bof⟩, fun _ => [xZg, xZn], [], none, 1, 0, fun _ _ => true, none, [], []⟩
theorem xZ5k : xZ5m.Ok prog := ⟨Is.of (by kernel_rfl) (by kernel_rfl), by kernel_rfl, xZ4 sb_ok bo_ok, trivial, trivial, fun _ => by kernel_rfl⟩
theorem xZ5i (N : Nat) : xZ1N.Ok prog N := xZ5k.give tb_ok hm N N (fun _ => ⟨xZI N, xZ1c N, trivial⟩) fun a r s h => by
  exact s.main [] trivial (.trans (by kernel_rfl) h)
noncomputable def xZ72 : Fn xZj := ⟨f207, [], ⟨[], [], sbf, bof⟩, fun _ => [xZg], [true], none, 1, 0, fun _ _ => true, none, [], []⟩
theorem xZ7f : xZ72.Ok prog := ⟨Is.of (by kernel_rfl) (by kernel_rfl), by kernel_rfl, xZ4 sb_ok bo_ok, trivial, trivial, fun _ => by kernel_rfl⟩
theorem xZL (N : Nat) : xZj.Ok prog N := xZ7f.give tb_ok hm N N (fun _ => ⟨xZI N, trivial⟩) fun a r s h => by
  exact s.main [] trivial (.trans (by kernel_rfl) h)
noncomputable def xZ7k : Fn xZ2z := ⟨f212, [], ⟨[], [], sbf, bof⟩, fun _ => [xZ24], [true], none, 0, 0, fun _ _ => true, none, [], []⟩
theorem xZ7i : xZ7k.Ok prog := ⟨Is.of (by kernel_rfl) (by kernel_rfl), by kernel_rfl, xZ4 sb_ok bo_ok, trivial, trivial, fun _ => by kernel_rfl⟩
theorem xZ7r (N : Nat) : xZ2z.Ok prog N := xZ7i.give tb_ok hm N N (fun _ => ⟨xZ3j N, trivial⟩) fun a r s h => by
  have l2 := s.loop 2 xZ1a (xZ3q N) N fun next2 h2 => by
    exact fun c v => s.seg 2 xZ1a [(2, .of xZ1a next2)] ⟨h2, trivial⟩ (by kernel_rfl) (by kernel_rfl)
  have l0 := s.loop 0 xZ1g (xZ3i N) N fun next0 h0 => by
    exact fun c v => s.seg 0 xZ1g [(0, .of xZ1g next0), (2, .of xZ1a (xZ5V N))] ⟨h0, l2, trivial⟩ (by kernel_rfl) (by kernel_rfl)
  exact s.main [(0, .of xZ1g (xZ67 N))] ⟨l0, trivial⟩ (.trans (by kernel_rfl) h)
noncomputable def xZbx : Fn xZ2x := ⟨f208, [], ⟨[(6, 4)], [], sbf, bof⟩, fun _ => [xZ2z], [true], none, 0, 0, fun _ _ => true, none, [], []⟩
theorem xZbM : xZbx.Ok prog := ⟨Is.of (by kernel_rfl) (by kernel_rfl), by kernel_rfl, xZ4 sb_ok bo_ok, trivial, trivial, fun _ => by kernel_rfl⟩
theorem xZ4e (N : Nat) : xZ2x.Ok prog N := xZbM.give tb_ok hm N N (fun _ => ⟨xZ7r N, trivial⟩) fun a r s h => by
  exact s.main [] trivial (.trans (by kernel_rfl) h)
noncomputable def xZ64 : Fn xZ1j := ⟨f219, [], ⟨[], [], sbf, bof⟩, fun _ => [xZg, xZn], [true], none, 1, 0, fun _ _ => true, none, [], []⟩
theorem xZ66 : xZ64.Ok prog := ⟨Is.of (by kernel_rfl) (by kernel_rfl), by kernel_rfl, xZ4 sb_ok bo_ok, trivial, trivial, fun _ => by kernel_rfl⟩
theorem xZ3g (N : Nat) : xZ1j.Ok prog N := xZ66.give tb_ok hm N N (fun _ => ⟨xZI N, xZ1c N, trivial⟩) fun a r s h => by
  exact s.main [] trivial (.trans (by kernel_rfl) h)
noncomputable def xZ60 : Fn xZ22 := ⟨f221, [], ⟨[(24, 4), (40, 4), (51, 4), (54, 4)], [], sbf, bof⟩, fun _ => [xZj, xZg, xZn, xZ1j], [true], none, 1, 0, fun _ _ => true, none, [], []⟩
theorem xZ61 : xZ60.Ok prog := ⟨Is.of (by kernel_rfl) (by kernel_rfl), by kernel_rfl, xZ4 sb_ok bo_ok, trivial, trivial, fun _ => by kernel_rfl⟩
theorem xZ5Q (N : Nat) : xZ22.Ok prog N := xZ61.give tb_ok hm N N (fun _ => ⟨xZL N, xZI N, xZ1c N, xZ3g N, trivial⟩) fun a r s h => by
  exact s.main [] trivial (.trans (by kernel_rfl) h)
noncomputable def xZ6Q : Fn xZ2f := ⟨f217, [], ⟨[(14, 7), (23, 7)], [], sbf, bof⟩, fun _ => [xZ22, xZj, xZ2x], [true], none, 1, 0, fun _ _ => true, none, [], []⟩
theorem xZ78 : xZ6Q.Ok prog := ⟨Is.of (by kernel_rfl) (by kernel_rfl), by kernel_rfl, xZ4 sb_ok bo_ok, trivial, trivial, fun _ => by kernel_rfl⟩
theorem xZ6F (N : Nat) : xZ2f.Ok prog N := xZ78.give tb_ok hm N N (fun _ => ⟨xZ5Q N, xZL N, xZ4e N, trivial⟩) fun a r s h => by
  have l0 := s.loop 0 xZ15 (xZ2W N) N fun next0 h0 => by
    exact fun c v => s.seg 0 xZ15 [(0, .of xZ15 next0)] ⟨h0, trivial⟩ (by kernel_rfl) (by kernel_rfl)
  exact s.main [(0, .of xZ15 (xZ5K N))] ⟨l0, trivial⟩ (.trans (by kernel_rfl) h)
noncomputable def xZdi : Fn xZ5l := ⟨f198, [], ⟨[], [], sbf, bof⟩, fun _ => [], [true], none, 0, 0, fun _ _ => true, none, [], []⟩
theorem xZcK : xZdi.Ok prog := ⟨Is.of (by kernel_rfl) (by kernel_rfl), by kernel_rfl, xZ4 sb_ok bo_ok, trivial, trivial, fun _ => by kernel_rfl⟩
theorem xZ9w (N : Nat) : xZ5l.Ok prog N := xZcK.give tb_ok hm N N (fun _ => trivial) fun a r s h => by
  exact s.main [] trivial (.trans (by kernel_rfl) h)
noncomputable def xZeJ : Fn xZ9b := ⟨f218, [], ⟨[], [], sbf, bof⟩, fun _ => [xZ5l], [true], none, 0, 0, fun _ _ => true, none, [], []⟩
theorem xZeD : xZeJ.Ok prog := ⟨Is.of (by kernel_rfl) (by kernel_rfl), by kernel_rfl, xZ4 sb_ok bo_ok, trivial, trivial, fun _ => by kernel_rfl⟩
theorem xZfg (N : Nat) : xZ9b.Ok prog N := xZeD.give tb_ok hm N N (fun _ => ⟨xZ9w N, trivial⟩) fun a r s h => by
  have l0 := s.loop 0 xZ5o (xZ9O N) N fun next0 h0 => by
    exact fun c v => s.seg 0 xZ5o [(0, .of xZ5o next0)] ⟨h0, trivial⟩ (by kernel_rfl) (by kernel_rfl)
  exact s.main [(0, .of xZ5o (xZcY N))] ⟨l0, trivial⟩ (.trans (by kernel_rfl) h)
end
end Go.Proofs.YtbioikdfpfafaaaGreatDoor.R
namespace Go.Proofs.YtbioikdfpfafaaaGreatDoor.R
open Go
open Go.Proofs.Tryz
set_option maxRecDepth 1000000
set_option linter.unusedSimpArgs false
set_option linter.unusedVariables false
noncomputable section
noncomputable def xZ7x : Fn xZ1C := ⟨f203, [], ⟨[(16, 7)], [], sbf, bof⟩, fun _ => [xZ2b, xZj, xZ2x], [true], none, 1, 0, fun _ _ => true, none, [], []⟩
theorem xZ3Z : xZ7x.Ok prog := ⟨Is.of (by kernel_rfl) (by kernel_rfl), by kernel_rfl, xZ4 sb_ok bo_ok, trivial, trivial, fun _ => by kernel_rfl⟩
noncomputable def xZ6I : Fn xZ2b := ⟨f206, [], ⟨[(16, 7)], [], sbf, bof⟩, fun _ => [xZ1f, xZj, xZ2x], [true], none, 1, 0, fun _ _ => true, none, [], []⟩
theorem xZ3z : xZ6I.Ok prog := ⟨Is.of (by kernel_rfl) (by kernel_rfl), by kernel_rfl, xZ4 sb_ok bo_ok, trivial, trivial, fun _ => by kernel_rfl⟩
noncomputable def xZ63 : Fn xZ1f := ⟨f210, [], ⟨[(18, 7), (49, 7)], [], sbf, bof⟩, fun _ => [xZ1N, xZj, xZ1f, xZ2x, xZ1C, xZn, xZ2f, xZg, xZ9b, xZ1j], [true], none, 1, 0, fun _ _ => true, none, [], []⟩
theorem xZ3s : xZ63.Ok prog := ⟨Is.of (by kernel_rfl) (by kernel_rfl), by kernel_rfl, xZ4 sb_ok bo_ok, trivial, trivial, fun _ => by kernel_rfl⟩
theorem xZ3A : ∀ N, xZ1C.Ok prog N ∧ xZ2b.Ok prog N ∧ xZ1f.Ok prog N
  | 0 => ⟨⟨xZ3Z.is.enters, fun a r h => by (have h : none = some r := h; cases h)⟩, ⟨xZ3z.is.enters, fun a r h => by (have h : none = some r := h; cases h)⟩, ⟨xZ3s.is.enters, fun a r h => by (have h : none = some r := h; cases h)⟩⟩
  | N + 1 => by
    obtain ⟨h_predtext_parser_or_v927, h_predtext_parser_and_v927, h_predtext_parser_part_v927⟩ := xZ3A N
    refine ⟨?_, ?_, ?_⟩
    · exact xZ3Z.give tb_ok hm N (N + 1) (fun _ => ⟨h_predtext_parser_and_v927, xZL N, xZ4e N, trivial⟩) fun a r s h => by
        have l0 := s.loop 0 xZ1i (xZ3l N) N fun next0 h0 => by
          exact fun c v => s.seg 0 xZ1i [(0, .of xZ1i next0)] ⟨h0, trivial⟩ (by kernel_rfl) (by kernel_rfl)
        exact s.main [(0, .of xZ1i (xZ5U N))] ⟨l0, trivial⟩ (.trans (by kernel_rfl) h)
    · exact xZ3z.give tb_ok hm N (N + 1) (fun _ => ⟨h_predtext_parser_part_v927, xZL N, xZ4e N, trivial⟩) fun a r s h => by
        have l0 := s.loop 0 xZX (xZ2V N) N fun next0 h0 => by
          exact fun c v => s.seg 0 xZX [(0, .of xZX next0)] ⟨h0, trivial⟩ (by kernel_rfl) (by kernel_rfl)
        exact s.main [(0, .of xZX (xZ5O N))] ⟨l0, trivial⟩ (.trans (by kernel_rfl) h)
    · exact xZ3s.give tb_ok hm N (N + 1) (fun _ => ⟨xZ5i N, xZL N, h_predtext_parser_part_v927, xZ4e N, h_predtext_parser_or_v927, xZ1c N, xZ6F N, xZI N, xZfg N, xZ3g N, trivial⟩) fun a r s h => by
        exact s.main [] trivial (.trans (by kernel_rfl) h)
theorem xZ7v (N : Nat) : xZ1C.Ok prog N := (xZ3A N).1
noncomputable def xZas : Fn xZ4C := ⟨f183, [], ⟨[], [], sbf, bof⟩, fun _ => [], [true], none, 0, 0, fun _ _ => true, none, [], []⟩
theorem xZar : xZas.Ok prog := ⟨Is.of (by kernel_rfl) (by kernel_rfl), by kernel_rfl, xZ4 sb_ok bo_ok, trivial, trivial, fun _ => by kernel_rfl⟩
theorem xZaC (N : Nat) : xZ4C.Ok prog N := xZar.give tb_ok hm N N (fun _ => trivial) fun a r s h => by
  exact s.main [] trivial (.trans (by kernel_rfl) h)
noncomputable def xZcq : Fn xZ4P := ⟨f96, [], ⟨[], [], sbf, bof⟩, fun _ => [], [true], none, 0, 0, fun _ _ => true, none, [], []⟩
theorem xZcj : xZcq.Ok prog := ⟨Is.of (by kernel_rfl) (by kernel_rfl), by kernel_rfl, xZ4 sb_ok bo_ok, trivial, trivial, fun _ => by kernel_rfl⟩
theorem xZ8Y (N : Nat) : xZ4P.Ok prog N := xZcj.give tb_ok hm N N (fun _ => trivial) fun a r s h => by
  exact s.main [] trivial (.trans (by kernel_rfl) h)
noncomputable def xZbh : Fn xZ56 := ⟨f97, [], ⟨[], [], sbf, bof⟩, fun _ => [], [true], none, 0, 0, fun _ _ => true, none, [], []⟩
theorem xZbf : xZbh.Ok prog := ⟨Is.of (by kernel_rfl) (by kernel_rfl), by kernel_rfl, xZ4 sb_ok bo_ok, trivial, trivial, fun _ => by kernel_rfl⟩
theorem xZb6 (N : Nat) : xZ56.Ok prog N := xZbf.give tb_ok hm N N (fun _ => trivial) fun a r s h => by
  exact s.main [] trivial (.trans (by kernel_rfl) h)
noncomputable def xZdP : Fn xZ8s := ⟨f98, [], ⟨[], [], sbf, bof⟩, fun _ => [xZ4P], [true], none, 0, 0, fun _ _ => true, none, [], []⟩
theorem xZe0 : xZdP.Ok prog := ⟨Is.of (by kernel_rfl) (by kernel_rfl), by kernel_rfl, xZ4 sb_ok bo_ok, trivial, trivial, fun _ => by kernel_rfl⟩
theorem xZep (N : Nat) : xZ8s.Ok prog N := xZe0.give tb_ok hm N N (fun _ => ⟨xZ8Y N, trivial⟩) fun a r s h => by
  exact s.main [] trivial (.trans (by kernel_rfl) h)
noncomputable def xZe7 : Fn xZ46 := ⟨f49, [], ⟨[], [], sbf, bof⟩, fun _ => [xZ4P, xZ56, xZ8s], [true], none, 0, 0, fun _ _ => true, none, [], []⟩
theorem xZdR : xZe7.Ok prog := ⟨Is.of (by kernel_rfl) (by kernel_rfl), by kernel_rfl, xZ4 sb_ok bo_ok, trivial, trivial, fun _ => by kernel_rfl⟩
theorem xZ6m (N : Nat) : xZ46.Ok prog N := xZdR.give tb_ok hm N N (fun _ => ⟨xZ8Y N, xZb6 N, xZep N, trivial⟩) fun a r s h => by
  have l0 := s.loop 0 xZ4N (xZ8U N) N fun next0 h0 => by
    exact fun c v => s.seg 0 xZ4N [(0, .of xZ4N next0)] ⟨h0, trivial⟩ (by kernel_rfl) (by kernel_rfl)
  exact s.main [(0, .of xZ4N (xZch N))] ⟨l0, trivial⟩ (.trans (by kernel_rfl) h)
noncomputable def xZeN : Fn xZ93 := ⟨f204, [], ⟨[], [], sbf, bof⟩, fun _ => [], [false], none, 0, 0, fun _ _ => true, none, [], []⟩
theorem xZeC : xZeN.Ok prog := ⟨Is.of (by kernel_rfl) (by kernel_rfl), by kernel_rfl, xZ4 sb_ok bo_ok, trivial, trivial, fun _ => by kernel_rfl⟩
theorem xZex (N : Nat) : xZ93.Ok prog N := xZeC.give tb_ok hm N N (fun _ => trivial) fun a r s h => by
  exact s.main [] trivial (.trans (by kernel_rfl) h)
noncomputable def xZ9c : Fn xZ3V := ⟨f239, [], ⟨[], [], sbf, bof⟩, fun _ => [], [true], none, 0, 0, fun _ _ => true, none, [], []⟩
theorem xZ9a : xZ9c.Ok prog := ⟨Is.of (by kernel_rfl) (by kernel_rfl), by kernel_rfl, xZ4 sb_ok bo_ok, trivial, trivial, fun _ => by kernel_rfl⟩
theorem xZ9p (N : Nat) : xZ3V.Ok prog N := xZ9a.give tb_ok hm N N (fun _ => trivial) fun a r s h => by
  exact s.main [] trivial (.trans (by kernel_rfl) h)
noncomputable def xZao : Fn xZ4E := ⟨f240, [], ⟨[], [], sbf, bof⟩, fun _ => [], [true], none, 0, 0, fun _ _ => true, none, [], []⟩
theorem xZan : xZao.Ok prog := ⟨Is.of (by kernel_rfl) (by kernel_rfl), by kernel_rfl, xZ4 sb_ok bo_ok, trivial, trivial, fun _ => by kernel_rfl⟩
theorem xZaw (N : Nat) : xZ4E.Ok prog N := xZan.give tb_ok hm N N (fun _ => trivial) fun a r s h => by
  exact s.main [] trivial (.trans (by kernel_rfl) h)
noncomputable def xZix : Fn xZcS := ⟨f180, [(195, .fb)], ⟨[], [], sbf, bof⟩, fun _ => [], [true], none, 0, 0, fun _ _ => true, none, [], []⟩
theorem xZiq : xZix.Ok prog := ⟨Is.of (by kernel_rfl) (by kernel_rfl), by kernel_rfl, xZ4 sb_ok bo_ok, trivial, ⟨ExtIs.mk' f195 (by kernel_rfl) (by kernel_rfl) (by kernel_rfl) (by kernel_rfl) (by kernel_rfl), trivial⟩, fun _ => by kernel_rfl⟩
theorem xZiJ (N : Nat) : xZcS.Ok prog N := xZiq.give tb_ok hm N N (fun _ => trivial) fun a r s h => by
  exact s.main [] trivial (.trans (by kernel_rfl) h)
noncomputable def xZeW : Fn xZ94 := ⟨f163, [], ⟨[], [], sbf, bof⟩, fun _ => [xZcS], [true], none, 0, 0, fun _ _ => true, none, [], []⟩
theorem xZew : xZeW.Ok prog := ⟨Is.of (by kernel_rfl) (by kernel_rfl), by kernel_rfl, xZ4 sb_ok bo_ok, trivial, trivial, fun _ => by kernel_rfl⟩
theorem xZfn (N : Nat) : xZ94.Ok prog N := xZew.give tb_ok hm N N (fun _ => ⟨xZiJ N, trivial⟩) fun a r s h => by
  exact s.main [] trivial (.trans (by kernel_rfl) h)
noncomputable def xZ92 : Fn xZ3O := ⟨f241, [], ⟨[], [], sbf, bof⟩, fun _ => [], [true], none, 0, 0, fun _ _ => true, none, [], []⟩
theorem xZ9m : xZ92.Ok prog := ⟨Is.of (by kernel_rfl) (by kernel_rfl), by kernel_rfl, xZ4 sb_ok bo_ok, trivial, trivial, fun _ => by kernel_rfl⟩
theorem xZ9e (N : Nat) : xZ3O.Ok prog N := xZ9m.give tb_ok hm N N (fun _ => trivial) fun a r s h => by
  exact s.main [] trivial (.trans (by kernel_rfl) h)
noncomputable def xZa0 : Fn xZ4h := ⟨f242, [], ⟨[], [], sbf, bof⟩, fun _ => [], [true], none, 0, 0, fun _ _ => true, none, [], []⟩
theorem xZ9C : xZa0.Ok prog := ⟨Is.of (by kernel_rfl) (by kernel_rfl), by kernel_rfl, xZ4 sb_ok bo_ok, trivial, trivial, fun _ => by kernel_rfl⟩
theorem xZ9L (N : Nat) : xZ4h.Ok prog N := xZ9C.give tb_ok hm N N (fun _ => trivial) fun a r s h => by
  exact s.main [] trivial (.trans (by kernel_rfl) h)
noncomputable def xZek : Fn xZ8o := ⟨f199, [], ⟨[], [], sbf, bof⟩, fun _ => [xZ93, xZ3V, xZ4E, xZ94, xZ3O, xZ4h], [true], none, 0, 0, fun _ _ => true, none, [], []⟩
theorem xZe3 : xZek.Ok prog := ⟨Is.of (by kernel_rfl) (by kernel_rfl), by kernel_rfl, xZ4 sb_ok bo_ok, trivial, trivial, fun _ => by kernel_rfl⟩
theorem xZe8 (N : Nat) : xZ8o.Ok prog N := xZe3.give tb_ok hm N N (fun _ => ⟨xZex N, xZ9p N, xZaw N, xZfn N, xZ9e N, xZ9L N, trivial⟩) fun a r s h => by
  exact s.main [] trivial (.trans (by kernel_rfl) h)
end
end Go.Proofs.YtbioikdfpfafaaaGreatDoor.R
