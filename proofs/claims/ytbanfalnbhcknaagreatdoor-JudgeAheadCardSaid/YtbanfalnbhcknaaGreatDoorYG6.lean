/- real.Versus, walked. No premise beyond what each theorem says. -/
import Derived.Test.YtbanfalnbhcknaaGreatDoorYG5
import Derived.Test.YtbanfalnbhcknaaGreatDoorYA4
import Derived.WalkKit
import Derived.Laws.Cover2
set_option linter.all false
set_option linter.unusedSimpArgs false
set_option linter.unusedVariables false
namespace Go.Proofs.YtbanfalnbhcknaaGreatDoor.Y
open Go
section
open Go Go.RowKit Go.Proofs.Tryz
attribute [-go_sem] binOp_float_cmp_neq binOp_float_cmp_leq binOp_float_cmp_gtr binOp_float_cmp_geq
set_option maxRecDepth 1000000
set_option maxHeartbeats 4000000
theorem rf_ext1_Versus (w : World) (n : Int) : (callFunc 164 #[.int .u64 n]).run Tryz.prog w = .ok (.value (.float .f64 n.toNat)) w := by
  obtain ⟨fn, h1, h2, h3, h4, h5⟩ := (ExtIs.mk' (P := Tryz.prog) (f := 164) (e := Extern.MathFloatBits.float64frombits) Tryz.f164 (by kernel_rfl) (by kernel_rfl) (by kernel_rfl) (by kernel_rfl) (by kernel_rfl)).prf
  exact run_callFunc_extern h1 h2 h3 h4 h5 _ w
theorem of_w_Versus (u : Int) (w : World) : Calls Tryz.prog 139 #[.int .u64 u] w fun e w' => e = .returned (.float .f64 u.toNat) ∧ w' = w := by
  have hx := rf_ext1_Versus
  go_enter Tryz.func139, Tryz.ntmps139
  go_wp2
  go_ret
  exact ⟨rfl, rfl⟩
theorem within_w_Versus (f : Nat) (b1 b2 : Bool) (h1 : fcmpB .geq .f64 f 14109777632551763968 = b1) (h2 : fcmpB .leq .f64 f 4886405595696988160 = b2) (w : World) : Calls Tryz.prog 205 #[.float .f64 f] w fun e w' => e = .returned (.bool (b1 && b2)) ∧ w' = w := by
  have q1 : ∀ w : World, (binOp .geq 241 (.float .f64 f) (.float .f64 14109777632551763968)).run Tryz.prog w = .ok (.bool b1) w := fun w => by rw [← h1]; rfl
  have q2 : ∀ w : World, (binOp .leq 241 (.float .f64 f) (.float .f64 4886405595696988160)).run Tryz.prog w = .ok (.bool b2) w := fun w => by rw [← h2]; rfl
  cases b1 <;> cases b2
  all_goals
    go_enter Tryz.func205, Tryz.ntmps205
    go_wp2
    go_ret
    exact ⟨rfl, rfl⟩
theorem rf_ext3_Versus {x : Nat} {s : Bool} {m : Nat} {i : Int} (hx : dbl.read x = .number s m i) (w : World) : (callFunc 212 #[.float .f64 x]).run Tryz.prog w = .ok (.value (.float .f64 (dbl.write (.number s (flN s m i) 0)))) w := by
  obtain ⟨fn, h1, h2, h3, h4, h5⟩ := (ExtIs.mk' (P := Tryz.prog) (f := 212) (e := Extern.MathFloor.toIntegral "math.archFloor" .down) Tryz.f212 (by kernel_rfl) (by kernel_rfl) (by kernel_rfl) (by kernel_rfl) (by kernel_rfl)).prf
  have := run_callFunc_extern h1 h2 h3 h4 h5 #[.float .f64 x] w
  rw [this]
  have hd : FloatKind.f64.decode x = .number s m i := hx
  obtain ⟨A, hA⟩ : ∃ A : Bool → Nat → Sem Value, Extern.MathFloor.toIntegral "math.archFloor" .down #[.float .f64 x] = (match FloatKind.f64.decode x with
    | .nan s t => A s t
    | d => pure (.float .f64 (FloatKind.f64.encode (d.integral .down)))) := ⟨_, rfl⟩
  rw [hA, hd]
  rfl
theorem floor_w_Versus {x : Nat} {s : Bool} {m : Nat} {i : Int} (hx : dbl.read x = .number s m i) (w : World) : Calls Tryz.prog 206 #[.float .f64 x] w fun e w' => e = .returned (.float .f64 (dbl.write (.number s (flN s m i) 0))) ∧ w' = w := by
  have hq := fun w => rf_ext3_Versus hx w
  generalize dbl.write (.number s (flN s m i) 0) = fl at *
  go_enter Tryz.func206, Tryz.ntmps206
  go_wp2
  go_ret
  exact ⟨rfl, rfl⟩
theorem ver_nan_Versus (n u : Int) (h : fcmpB .neq .f64 u.toNat u.toNat = true) (w : World) : Calls Tryz.prog 201 #[.int .i64 n, .int .u64 u] w fun e w' => e = .returned (.tuple #[.int .i64 0, .bool false]) ∧ w' = w := by
  have q1 : ∀ w : World, (binOp .neq 241 (.float .f64 u.toNat) (.float .f64 u.toNat)).run Tryz.prog w = .ok (.bool true) w := fun w => by rw [← h]; rfl
  go_enter Tryz.func201, Tryz.ntmps201
  go_wp2_with (first | (go_at_call 139; refine (of_w_Versus _ _).mono ?_; rintro e w' ⟨rfl, rfl⟩))
  go_ret2
  exact ⟨rfl, rfl⟩
theorem ver_out_Versus (n u : Int) (h : fcmpB .neq .f64 u.toNat u.toNat = false) (hn : n < -4611686018427387904 ∨ 4611686018427387904 < n) (w : World) : Calls Tryz.prog 201 #[.int .i64 n, .int .u64 u] w fun e w' => e = .returned (.tuple #[.int .i64 0, .bool false]) ∧ w' = w := by
  have q1 : ∀ w : World, (binOp .neq 241 (.float .f64 u.toNat) (.float .f64 u.toNat)).run Tryz.prog w = .ok (.bool false) w := fun w => by rw [← h]; rfl
  by_cases h1 : n < -4611686018427387904
  · go_enter Tryz.func201, Tryz.ntmps201
    go_wp2_with (first | (go_at_call 139; refine (of_w_Versus _ _).mono ?_; rintro e w' ⟨rfl, rfl⟩))
    go_ret2
    exact ⟨rfl, rfl⟩
  · have h2 : 4611686018427387904 < n := by omega
    have h1' : -4611686018427387904 ≤ n := by omega
    go_enter Tryz.func201, Tryz.ntmps201
    go_wp2_with (first | (go_at_call 139; refine (of_w_Versus _ _).mono ?_; rintro e w' ⟨rfl, rfl⟩))
    go_ret2
    exact ⟨rfl, rfl⟩
theorem ver_far_Versus (n u : Int) (h : fcmpB .neq .f64 u.toNat u.toNat = false) (hn1 : -4611686018427387904 ≤ n) (hn2 : n ≤ 4611686018427387904) (b1 b2 g : Bool) (h1 : fcmpB .geq .f64 u.toNat 14109777632551763968 = b1) (h2 : fcmpB .leq .f64 u.toNat 4886405595696988160 = b2) (hb : (b1 && b2) = false) (hg : fcmpB .gtr .f64 u.toNat 0 = g) (w : World) :
    Calls Tryz.prog 201 #[.int .i64 n, .int .u64 u] w fun e w' => e = .returned (.tuple #[.int .i64 (if g then -1 else 1), .bool true]) ∧ w' = w := by
  have q1 : ∀ w : World, (binOp .neq 241 (.float .f64 u.toNat) (.float .f64 u.toNat)).run Tryz.prog w = .ok (.bool false) w := fun w => by rw [← h]; rfl
  have q2 : ∀ w : World, (binOp .gtr 241 (.float .f64 u.toNat) (.float .f64 0)).run Tryz.prog w = .ok (.bool g) w := fun w => by rw [← hg]; rfl
  have hw := fun w => within_w_Versus u.toNat b1 b2 h1 h2 w
  rw [hb] at hw
  cases g
  all_goals
    go_enter Tryz.func201, Tryz.ntmps201
    go_wp2_with (first | (go_at_call 139; refine (of_w_Versus _ _).mono ?_; rintro e w' ⟨rfl, rfl⟩) | (go_at_call 205; refine (hw _).mono ?_; rintro e w' ⟨rfl, rfl⟩))
    go_ret2
    exact ⟨rfl, rfl⟩
theorem ver_near_Versus (n u : Int) (h : fcmpB .neq .f64 u.toNat u.toNat = false) (hn1 : -4611686018427387904 ≤ n) (hn2 : n ≤ 4611686018427387904) (h1 : fcmpB .geq .f64 u.toNat 14109777632551763968 = true) (h2 : fcmpB .leq .f64 u.toNat 4886405595696988160 = true)
    {s : Bool} {m : Nat} {i : Int} (hx : dbl.read u.toNat = .number s m i) (F : Int) (hF1 : -4611686018427387904 ≤ F) (hF2 : F ≤ 4611686018427387904) (hF : (dbl.read (dbl.write (.number s (flN s m i) 0))).toInt .zero = some F) (g : Bool) (hg : fcmpB .gtr .f64 u.toNat (dbl.write (.number s (flN s m i) 0)) = g) (w : World) :
    Calls Tryz.prog 201 #[.int .i64 n, .int .u64 u] w fun e w' => e = .returned (.tuple #[.int .i64 (if n < F then -1 else if F < n then 1 else if g then -1 else 0), .bool true]) ∧ w' = w := by
  have q1 : ∀ w : World, (binOp .neq 241 (.float .f64 u.toNat) (.float .f64 u.toNat)).run Tryz.prog w = .ok (.bool false) w := fun w => by rw [← h]; rfl
  have hw := fun w => within_w_Versus u.toNat true true h1 h2 w
  have hfl := fun w => floor_w_Versus hx w
  generalize dbl.write (.number s (flN s m i) 0) = fl at *
  have q2 : ∀ w : World, (binOp .gtr 241 (.float .f64 u.toNat) (.float .f64 fl)).run Tryz.prog w = .ok (.bool g) w := fun w => by rw [← hg]; rfl
  have q3 : ∀ w : World, (convert 241 3 (.float .f64 fl)).run Tryz.prog w = .ok (.int .i64 F) w := fun w => by
    have hd : (FloatKind.f64.decode fl).toInt .zero = some F := hF
    have e : (Conv.floatToInt .f64 fl .i64).run Tryz.prog w = .ok (.int .i64 F) w := by
      simp only [Conv.floatToInt, hd]
      rw [if_pos ⟨by rw [show IntKind.i64.min = -9223372036854775808 by decide]; omega, by rw [show IntKind.i64.max = 9223372036854775807 by decide]; omega⟩]
      rfl
    exact e
  by_cases c1 : n < F
  · rw [if_pos c1]
    go_enter Tryz.func201, Tryz.ntmps201
    go_wp2_with (first | (go_at_call 139; refine (of_w_Versus _ _).mono ?_; rintro e w' ⟨rfl, rfl⟩) | (go_at_call 205; refine (hw _).mono ?_; rintro e w' ⟨rfl, rfl⟩) | (go_at_call 206; refine (hfl _).mono ?_; rintro e w' ⟨rfl, rfl⟩))
    go_ret2
    exact ⟨rfl, rfl⟩
  · rw [if_neg c1]
    have c1' : F ≤ n := by omega
    by_cases c2 : F < n
    · rw [if_pos c2]
      have c3 : ¬ n = F := by omega
      have c4 : (n == F) = false := by simpa using c3
      go_enter Tryz.func201, Tryz.ntmps201
      go_wp2_with (first | (go_at_call 139; refine (of_w_Versus _ _).mono ?_; rintro e w' ⟨rfl, rfl⟩) | (go_at_call 205; refine (hw _).mono ?_; rintro e w' ⟨rfl, rfl⟩) | (go_at_call 206; refine (hfl _).mono ?_; rintro e w' ⟨rfl, rfl⟩))
      go_ret2
      exact ⟨rfl, rfl⟩
    · rw [if_neg c2]
      obtain rfl : n = F := by omega
      cases g
      all_goals
        go_enter Tryz.func201, Tryz.ntmps201
        go_wp2_with (first | (go_at_call 139; refine (of_w_Versus _ _).mono ?_; rintro e w' ⟨rfl, rfl⟩) | (go_at_call 205; refine (hw _).mono ?_; rintro e w' ⟨rfl, rfl⟩) | (go_at_call 206; refine (hfl _).mono ?_; rintro e w' ⟨rfl, rfl⟩))
        go_ret2
        exact ⟨rfl, rfl⟩
theorem ver_w_Versus (n u : Int) (w : World) : Calls Tryz.prog 201 #[.int .i64 n, .int .u64 u] w fun e w' => e = .returned (.tuple #[.int .i64 (rVersus n u).1, .bool (rVersus n u).2]) ∧ w' = w := by
  have hK : (0 : Int) < KK := Int.pow_pos (by decide)
  rcases read_cases u.toNat with ⟨s, t, h⟩ | ⟨s, h⟩ | ⟨s, m, i, h, hm, hi⟩
  · have e : rVersus n u = (0, false) := by unfold rVersus; rw [h]
    rw [e]
    exact ver_nan_Versus n u (by
      show ((dbl.read u.toNat).order (dbl.read u.toNat) != some .eq) = true
      rw [h]; rfl) w
  · have hne : fcmpB .neq .f64 u.toNat u.toNat = false := by
      show ((dbl.read u.toNat).order (dbl.read u.toNat) != some .eq) = false
      rw [h]; cases s <;> rfl
    by_cases hn : n < -4611686018427387904 ∨ 4611686018427387904 < n
    · have e : rVersus n u = (0, false) := by unfold rVersus; rw [h]; exact if_pos hn
      rw [e]
      exact ver_out_Versus n u hne hn w
    · have e : rVersus n u = (if s then 1 else -1, true) := by unfold rVersus; rw [h]; exact if_neg hn
      rw [e]
      have h1 : fcmpB .geq .f64 u.toNat 14109777632551763968 = !s := by
        show ((dbl.read u.toNat).order (dbl.read 14109777632551763968) == some .gt || (dbl.read u.toNat).order (dbl.read 14109777632551763968) == some .eq) = !s
        rw [h, rd_c1]; cases s <;> rfl
      have h2 : fcmpB .leq .f64 u.toNat 4886405595696988160 = s := by
        show ((dbl.read u.toNat).order (dbl.read 4886405595696988160) == some .lt || (dbl.read u.toNat).order (dbl.read 4886405595696988160) == some .eq) = s
        rw [h, rd_c2]; cases s <;> rfl
      have h3 : fcmpB .gtr .f64 u.toNat 0 = !s := by
        show ((dbl.read u.toNat).order (dbl.read 0) == some .gt) = !s
        rw [h, rd_0]; cases s <;> rfl
      have := ver_far_Versus n u hne (by omega) (by omega) (!s) s (!s) h1 h2 (by cases s <;> rfl) h3 w
      cases s <;> exact this
  · have hne := f_ne h hi
    by_cases hn : n < -4611686018427387904 ∨ 4611686018427387904 < n
    · have e : rVersus n u = (0, false) := by unfold rVersus; rw [h]; exact if_pos hn
      rw [e]
      exact ver_out_Versus n u hne hn w
    · have e : rVersus n u = (vsI n (VD s m i), true) := by unfold rVersus; rw [h]; exact if_neg hn
      rw [e]
      have h1 := f_ge h rd_c1 hi (by decide)
      have h2 := f_le h rd_c2 hi (by decide)
      have h3 := f_gt h rd_0 hi (by decide)
      rw [vd_c] at h1 h2
      rw [show VD false 0 (-1074) = 0 from rfl] at h3
      have ha : n * KK ≤ 2 ^ 62 * KK := Int.mul_le_mul_of_nonneg_right (by omega) (Int.le_of_lt hK)
      have hb : -(2 ^ 62 * KK) ≤ n * KK := by
        rw [← Int.neg_mul]; exact Int.mul_le_mul_of_nonneg_right (by omega) (Int.le_of_lt hK)
      have hc : (0 : Int) < 2 ^ 62 * KK := Int.mul_pos (by decide) hK
      rw [if_pos rfl, Int.neg_mul, Int.one_mul] at h1
      rw [if_neg (by decide), Int.one_mul] at h2
      have hf := fun a b => floor_ok (s := s) hm hi a b
      have hm1 : ∀ a b : Int, a ≤ b → a * KK ≤ b * KK := fun a b q => Int.mul_le_mul_of_nonneg_right q (Int.le_of_lt hK)
      have hr := fun (c : Nat) (q1 : c ≤ 2 ^ 62) q2 => fl_read (s := s) (c := c) q1 q2
      generalize hV : VD s m i = V at *
      generalize hKK : KK = K at *
      generalize hL : 2 ^ 62 * K = L at *
      by_cases hw : -L ≤ V ∧ V ≤ L
      · obtain ⟨q1, q2, q3, q4⟩ := hf hw.2 hw.1
        obtain ⟨k, E, e1, e2, e3, e4⟩ := hr _ q1 q2
        have hs := signed_0 s (flN s m i)
        have hg := f_gt h e1 hi e2
        rw [hV, e3] at hg
        generalize hF : Ieee.signed s (flN s m i) 0 = F at *
        have hFr : -4611686018427387904 ≤ F ∧ F ≤ 4611686018427387904 := by
          have : (2 : Nat) ^ 62 = 4611686018427387904 := by decide
          rw [this] at q1
          cases s <;> simp at hs <;> omega
        have := ver_near_Versus n u hne (by omega) (by omega) (by rw [h1]; exact decide_eq_true hw.1) (by rw [h2]; exact decide_eq_true hw.2) h F hFr.1 hFr.2 (by rw [e1]; exact e4) _ hg w
        rw [Int.add_mul, Int.one_mul] at q4
        have hv : vsI n V = (if n < F then -1 else if F < n then 1 else if decide (F * K < V) = true then -1 else 0) := by
          unfold vsI
          rw [hKK]
          by_cases c1 : n < F
          · have := hm1 (n + 1) F (by omega)
            rw [Int.add_mul, Int.one_mul] at this
            rw [if_pos (by omega), if_pos c1]
          · rw [if_neg c1]
            by_cases c2 : F < n
            · have := hm1 (F + 1) n (by omega)
              rw [Int.add_mul, Int.one_mul] at this
              rw [if_pos c2, if_neg (by omega), if_pos (by omega)]
            · obtain rfl : n = F := by omega
              rw [if_neg c2]
              by_cases c3 : n * K < V
              · rw [if_pos c3, if_pos (decide_eq_true c3)]
              · rw [if_neg c3, if_neg (by omega), if_neg (by simpa using c3)]
        rw [hv]; exact this
      · have hbb : (decide (-L ≤ V) && decide (V ≤ L)) = false := by
          rw [← Bool.decide_and]; exact decide_eq_false hw
        have := ver_far_Versus n u hne (by omega) (by omega) _ _ _ h1 h2 hbb h3 w
        have hv : vsI n V = (if decide (0 < V) = true then -1 else 1) := by
          unfold vsI
          rw [hKK]
          by_cases c : 0 < V
          · rw [if_pos (by omega), if_pos (decide_eq_true c)]
          · rw [if_neg (by omega), if_pos (by omega), if_neg (by simpa using c)]
        rw [hv]; exact this
theorem c_real_Versus (N : Nat) : C_real_Versus.Ok prog N := by
  refine ⟨⟨Tryz.f201, Tryz.func201, by kernel_rfl, by kernel_rfl⟩, fun a r h => ?_⟩
  obtain ⟨x, y, ⟨⟩⟩ := a
  have h : some (rVersus x y) = some r := h
  obtain rfl := Option.some.inj h
  intro M S w vs hh _ hsz hrep
  obtain ⟨v, u, rfl⟩ : ∃ v u, vs = #[v, u] := by
    match vs, hsz with
    | ⟨[v, u]⟩, _ => exact ⟨v, u, rfl⟩
  have vr : ∀ {v x : Value}, DRep S w v (.v x) → v = x := fun h => by cases h; rfl
  have h0 : DRep S w v (.v (.int .i64 x)) := dat_rep (hrep 0 (by show 0 < 2; omega)) rfl
  obtain rfl := vr h0
  have h1 : DRep S w u (.v (.int .u64 y)) := dat_rep (hrep 1 (by show 1 < 2; omega)) rfl
  obtain rfl := vr h1
  refine (ver_w_Versus x y w).mono ?_
  rintro e w' ⟨rfl, rfl⟩
  refine ⟨M, S, .data (.tup _ _ rfl fun i hi => ?_), hh.grew (.refl _), .grew hh (.refl _)⟩
  match i, hi with
  | 0, _ => exact .v _
  | 1, _ => exact .v _
end
section
open Go.Proofs.Tryz
set_option maxRecDepth 1000000
noncomputable section
noncomputable def F_law04_Small : Fn C_law04_Small := ⟨f21, [], ⟨[], [], sbf, bof⟩, fun _ => [], [true], none, 0, 0, fun _ _ => true, none, [], []⟩
theorem o_law04_Small : F_law04_Small.Ok prog := ⟨Is.of (by kernel_rfl) (by kernel_rfl), by kernel_rfl, hint_sb sb_ok bo_ok, trivial, trivial, fun _ => by kernel_rfl⟩
theorem c_law04_Small (N : Nat) : C_law04_Small.Ok prog N := o_law04_Small.give tb_ok hm N N (fun _ => trivial) fun a r s h => by
  exact s.main [] trivial (.trans (by kernel_rfl) h)
noncomputable def F_law11_Over : Fn C_law11_Over := ⟨f6, [], ⟨[], [], sbf, bof⟩, fun _ => [C_law04_Small], [true], none, 0, 0, fun _ _ => true, none, [], []⟩
theorem o_law11_Over : F_law11_Over.Ok prog := ⟨Is.of (by kernel_rfl) (by kernel_rfl), by kernel_rfl, hint_sb sb_ok bo_ok, trivial, trivial, fun _ => by kernel_rfl⟩
theorem c_law11_Over (N : Nat) : C_law11_Over.Ok prog N := o_law11_Over.give tb_ok hm N N (fun _ => ⟨c_law04_Small N, trivial⟩) fun a r s h => by
  have l0 := s.loop 0 q_law11_Over_0 (f_law11_Over_0 N) N fun next0 h0 => by
    exact fun c v => s.seg 0 q_law11_Over_0 [(0, .of q_law11_Over_0 next0)] ⟨h0, trivial⟩ (by kernel_rfl) (by kernel_rfl)
  exact s.main [(0, .of q_law11_Over_0 (r_law11_Over_0 N))] ⟨l0, trivial⟩ (.trans (by kernel_rfl) h)
noncomputable def F_predtext_parser_next_v424 : Fn C_predtext_parser_next_v424 := ⟨f156, [], ⟨[], [], sbf, bof⟩, fun _ => [], [true], none, 1, 0, fun _ _ => true, none, [], []⟩
theorem o_predtext_parser_next_v424 : F_predtext_parser_next_v424.Ok prog := ⟨Is.of (by kernel_rfl) (by kernel_rfl), by kernel_rfl, hint_sb sb_ok bo_ok, trivial, trivial, fun _ => by kernel_rfl⟩
theorem c_predtext_parser_next_v424 (N : Nat) : C_predtext_parser_next_v424.Ok prog N := o_predtext_parser_next_v424.give tb_ok hm N N (fun _ => trivial) fun a r s h => by
  exact s.main [] trivial (.trans (by kernel_rfl) h)
noncomputable def F_predtext_parser_place_v424 : Fn C_predtext_parser_place_v424 := ⟨f89, [], ⟨[], [], sbf, bof⟩, fun _ => [], [true], none, 1, 0, fun _ _ => true, none, [], []⟩
theorem o_predtext_parser_place_v424 : F_predtext_parser_place_v424.Ok prog := ⟨Is.of (by kernel_rfl) (by kernel_rfl), by kernel_rfl, hint_sb sb_ok bo_ok, trivial, trivial, fun _ => by kernel_rfl⟩
theorem c_predtext_parser_place_v424 (N : Nat) : C_predtext_parser_place_v424.Ok prog N := o_predtext_parser_place_v424.give tb_ok hm N N (fun _ => trivial) fun a r s h => by
  exact s.main [] trivial (.trans (by kernel_rfl) h)
noncomputable def F_predtext_parser_fail_v927 : Fn C_predtext_parser_fail_v927 := ⟨f167, [], ⟨[], [], sbf, bof⟩, fun _ => [C_predtext_parser_place_v424], [], none, 1, 0, fun _ _ => true, none, [], []⟩
theorem o_predtext_parser_fail_v927 : F_predtext_parser_fail_v927.Ok prog := ⟨Is.of (by kernel_rfl) (by kernel_rfl), by kernel_rfl, hint_sb sb_ok bo_ok, trivial, trivial, fun _ => by kernel_rfl⟩
theorem c_predtext_parser_fail_v927 (N : Nat) : C_predtext_parser_fail_v927.Ok prog N := o_predtext_parser_fail_v927.give tb_ok hm N N (fun _ => ⟨c_predtext_parser_place_v424 N, trivial⟩) fun a r s h => by
  exact s.main [] trivial (.trans (by kernel_rfl) h)
noncomputable def F_predtext_parser_deeper_v927 : Fn C_predtext_parser_deeper_v927 := ⟨f166, [], ⟨[], [], sbf, bof⟩, fun _ => [C_predtext_parser_next_v424, C_predtext_parser_fail_v927], [], none, 1, 0, fun _ _ => true, none, [], []⟩
theorem o_predtext_parser_deeper_v927 : F_predtext_parser_deeper_v927.Ok prog := ⟨Is.of (by kernel_rfl) (by kernel_rfl), by kernel_rfl, hint_sb sb_ok bo_ok, trivial, trivial, fun _ => by kernel_rfl⟩
theorem c_predtext_parser_deeper_v927 (N : Nat) : C_predtext_parser_deeper_v927.Ok prog N := o_predtext_parser_deeper_v927.give tb_ok hm N N (fun _ => ⟨c_predtext_parser_next_v424 N, c_predtext_parser_fail_v927 N, trivial⟩) fun a r s h => by
  exact s.main [] trivial (.trans (by kernel_rfl) h)
noncomputable def F_predtext_parser_eat_v368 : Fn C_predtext_parser_eat_v368 := ⟨f131, [], ⟨[], [], sbf, bof⟩, fun _ => [C_predtext_parser_next_v424], [true], none, 1, 0, fun _ _ => true, none, [], []⟩
theorem o_predtext_parser_eat_v368 : F_predtext_parser_eat_v368.Ok prog := ⟨Is.of (by kernel_rfl) (by kernel_rfl), by kernel_rfl, hint_sb sb_ok bo_ok, trivial, trivial, fun _ => by kernel_rfl⟩
theorem c_predtext_parser_eat_v368 (N : Nat) : C_predtext_parser_eat_v368.Ok prog N := o_predtext_parser_eat_v368.give tb_ok hm N N (fun _ => ⟨c_predtext_parser_next_v424 N, trivial⟩) fun a r s h => by
  exact s.main [] trivial (.trans (by kernel_rfl) h)
noncomputable def F_slices_Concat_pred_Node : Fn C_slices_Concat_pred_Node := ⟨f157, [], ⟨[], [], sbf, bof⟩, fun _ => [C_slices_Grow_pred_Node_own], [true], none, 0, 0, fun _ _ => true, none, [], []⟩
theorem o_slices_Concat_pred_Node : F_slices_Concat_pred_Node.Ok prog := ⟨Is.of (by kernel_rfl) (by kernel_rfl), by kernel_rfl, hint_sb sb_ok bo_ok, trivial, trivial, fun _ => by kernel_rfl⟩
theorem c_slices_Concat_pred_Node (N : Nat) : C_slices_Concat_pred_Node.Ok prog N := o_slices_Concat_pred_Node.give tb_ok hm N N (fun _ => ⟨c_slices_Grow_pred_Node_own N, trivial⟩) fun a r s h => by
  have l2 := s.loop 2 q_slices_Concat_pred_Node_2 (f_slices_Concat_pred_Node_2 N) N fun next2 h2 => by
    exact fun c v => s.seg 2 q_slices_Concat_pred_Node_2 [(2, .of q_slices_Concat_pred_Node_2 next2)] ⟨h2, trivial⟩ (by kernel_rfl) (by kernel_rfl)
  have l0 := s.loop 0 q_slices_Concat_pred_Node_0 (f_slices_Concat_pred_Node_0 N) N fun next0 h0 => by
    exact fun c v => s.seg 0 q_slices_Concat_pred_Node_0 [(0, .of q_slices_Concat_pred_Node_0 next0), (2, .of q_slices_Concat_pred_Node_2 (r_slices_Concat_pred_Node_2 N))] ⟨h0, l2, trivial⟩ (by kernel_rfl) (by kernel_rfl)
  exact s.main [(0, .of q_slices_Concat_pred_Node_0 (r_slices_Concat_pred_Node_0 N))] ⟨l0, trivial⟩ (.trans (by kernel_rfl) h)
noncomputable def F_predtext_above : Fn C_predtext_above := ⟨f132, [], ⟨[(6, 4)], [], sbf, bof⟩, fun _ => [C_slices_Concat_pred_Node], [true], none, 0, 0, fun _ _ => true, none, [], []⟩
theorem o_predtext_above : F_predtext_above.Ok prog := ⟨Is.of (by kernel_rfl) (by kernel_rfl), by kernel_rfl, hint_sb sb_ok bo_ok, trivial, trivial, fun _ => by kernel_rfl⟩
theorem c_predtext_above (N : Nat) : C_predtext_above.Ok prog N := o_predtext_above.give tb_ok hm N N (fun _ => ⟨c_slices_Concat_pred_Node N, trivial⟩) fun a r s h => by
  exact s.main [] trivial (.trans (by kernel_rfl) h)
noncomputable def F_predtext_parser_take_v128 : Fn C_predtext_parser_take_v128 := ⟨f170, [], ⟨[], [], sbf, bof⟩, fun _ => [C_predtext_parser_next_v424, C_predtext_parser_fail_v927], [true], none, 1, 0, fun _ _ => true, none, [], []⟩
theorem o_predtext_parser_take_v128 : F_predtext_parser_take_v128.Ok prog := ⟨Is.of (by kernel_rfl) (by kernel_rfl), by kernel_rfl, hint_sb sb_ok bo_ok, trivial, trivial, fun _ => by kernel_rfl⟩
theorem c_predtext_parser_take_v128 (N : Nat) : C_predtext_parser_take_v128.Ok prog N := o_predtext_parser_take_v128.give tb_ok hm N N (fun _ => ⟨c_predtext_parser_next_v424 N, c_predtext_parser_fail_v927 N, trivial⟩) fun a r s h => by
  exact s.main [] trivial (.trans (by kernel_rfl) h)
noncomputable def F_predtext_parser_unit_v424 : Fn C_predtext_parser_unit_v424 := ⟨f174, [], ⟨[(24, 4), (40, 4), (51, 4), (54, 4)], [], sbf, bof⟩, fun _ => [C_predtext_parser_eat_v368, C_predtext_parser_next_v424, C_predtext_parser_fail_v927, C_predtext_parser_take_v128], [true], none, 1, 0, fun _ _ => true, none, [], []⟩
theorem o_predtext_parser_unit_v424 : F_predtext_parser_unit_v424.Ok prog := ⟨Is.of (by kernel_rfl) (by kernel_rfl), by kernel_rfl, hint_sb sb_ok bo_ok, trivial, trivial, fun _ => by kernel_rfl⟩
theorem c_predtext_parser_unit_v424 (N : Nat) : C_predtext_parser_unit_v424.Ok prog N := o_predtext_parser_unit_v424.give tb_ok hm N N (fun _ => ⟨c_predtext_parser_eat_v368 N, c_predtext_parser_next_v424 N, c_predtext_parser_fail_v927 N, c_predtext_parser_take_v128 N, trivial⟩) fun a r s h => by
  exact s.main [] trivial (.trans (by kernel_rfl) h)
noncomputable def F_predtext_parser_sum_v424 : Fn C_predtext_parser_sum_v424 := ⟨f168, [], ⟨[(14, 5), (23, 5)], [], sbf, bof⟩, fun _ => [C_predtext_parser_unit_v424, C_predtext_parser_eat_v368, C_predtext_above], [true], none, 1, 0, fun _ _ => true, none, [], []⟩
theorem o_predtext_parser_sum_v424 : F_predtext_parser_sum_v424.Ok prog := ⟨Is.of (by kernel_rfl) (by kernel_rfl), by kernel_rfl, hint_sb sb_ok bo_ok, trivial, trivial, fun _ => by kernel_rfl⟩
theorem c_predtext_parser_sum_v424 (N : Nat) : C_predtext_parser_sum_v424.Ok prog N := o_predtext_parser_sum_v424.give tb_ok hm N N (fun _ => ⟨c_predtext_parser_unit_v424 N, c_predtext_parser_eat_v368 N, c_predtext_above N, trivial⟩) fun a r s h => by
  have l0 := s.loop 0 q_predtext_parser_sum_v424_0 (f_predtext_parser_sum_v424_0 N) N fun next0 h0 => by
    exact fun c v => s.seg 0 q_predtext_parser_sum_v424_0 [(0, .of q_predtext_parser_sum_v424_0 next0)] ⟨h0, trivial⟩ (by kernel_rfl) (by kernel_rfl)
  exact s.main [(0, .of q_predtext_parser_sum_v424_0 (r_predtext_parser_sum_v424_0 N))] ⟨l0, trivial⟩ (.trans (by kernel_rfl) h)
noncomputable def F_compare_Sign : Fn C_compare_Sign := ⟨f60, [], ⟨[], [], sbf, bof⟩, fun _ => [], [true], none, 0, 0, fun _ _ => true, none, [], []⟩
theorem o_compare_Sign : F_compare_Sign.Ok prog := ⟨Is.of (by kernel_rfl) (by kernel_rfl), by kernel_rfl, hint_sb sb_ok bo_ok, trivial, trivial, fun _ => by kernel_rfl⟩
theorem c_compare_Sign (N : Nat) : C_compare_Sign.Ok prog N := o_compare_Sign.give tb_ok hm N N (fun _ => trivial) fun a r s h => by
  exact s.main [] trivial (.trans (by kernel_rfl) h)
noncomputable def F_compare_Op : Fn C_compare_Op := ⟨f169, [], ⟨[], [], sbf, bof⟩, fun _ => [C_compare_Sign], [true], none, 0, 0, fun _ _ => true, none, [], []⟩
theorem o_compare_Op : F_compare_Op.Ok prog := ⟨Is.of (by kernel_rfl) (by kernel_rfl), by kernel_rfl, hint_sb sb_ok bo_ok, trivial, trivial, fun _ => by kernel_rfl⟩
theorem c_compare_Op (N : Nat) : C_compare_Op.Ok prog N := o_compare_Op.give tb_ok hm N N (fun _ => ⟨c_compare_Sign N, trivial⟩) fun a r s h => by
  have l0 := s.loop 0 q_compare_Op_0 (f_compare_Op_0 N) N fun next0 h0 => by
    exact fun c v => s.seg 0 q_compare_Op_0 [(0, .of q_compare_Op_0 next0)] ⟨h0, trivial⟩ (by kernel_rfl) (by kernel_rfl)
  exact s.main [(0, .of q_compare_Op_0 (r_compare_Op_0 N))] ⟨l0, trivial⟩ (.trans (by kernel_rfl) h)
end
end
section
open Go.Proofs.Tryz
set_option maxRecDepth 1000000
noncomputable section
noncomputable def F_predtext_parser_or_v927 : Fn C_predtext_parser_or_v927 := ⟨f91, [], ⟨[(16, 5)], [], sbf, bof⟩, fun _ => [C_predtext_parser_and_v927, C_predtext_parser_eat_v368, C_predtext_above], [true], none, 1, 0, fun _ _ => true, none, [], []⟩
theorem o_predtext_parser_or_v927 : F_predtext_parser_or_v927.Ok prog := ⟨Is.of (by kernel_rfl) (by kernel_rfl), by kernel_rfl, hint_sb sb_ok bo_ok, trivial, trivial, fun _ => by kernel_rfl⟩
noncomputable def F_predtext_parser_and_v927 : Fn C_predtext_parser_and_v927 := ⟨f130, [], ⟨[(16, 5)], [], sbf, bof⟩, fun _ => [C_predtext_parser_part_v927, C_predtext_parser_eat_v368, C_predtext_above], [true], none, 1, 0, fun _ _ => true, none, [], []⟩
theorem o_predtext_parser_and_v927 : F_predtext_parser_and_v927.Ok prog := ⟨Is.of (by kernel_rfl) (by kernel_rfl), by kernel_rfl, hint_sb sb_ok bo_ok, trivial, trivial, fun _ => by kernel_rfl⟩
noncomputable def F_predtext_parser_part_v927 : Fn C_predtext_parser_part_v927 := ⟨f155, [], ⟨[(18, 5), (49, 5)], [], sbf, bof⟩, fun _ => [C_predtext_parser_deeper_v927, C_predtext_parser_eat_v368, C_predtext_parser_part_v927, C_predtext_above, C_predtext_parser_or_v927, C_predtext_parser_fail_v927, C_predtext_parser_sum_v424, C_predtext_parser_next_v424, C_compare_Op, C_predtext_parser_take_v128], [true], none, 1, 0, fun _ _ => true, none, [], []⟩
theorem o_predtext_parser_part_v927 : F_predtext_parser_part_v927.Ok prog := ⟨Is.of (by kernel_rfl) (by kernel_rfl), by kernel_rfl, hint_sb sb_ok bo_ok, trivial, trivial, fun _ => by kernel_rfl⟩
theorem cs_predtext_parser_or_v927 : ∀ N, C_predtext_parser_or_v927.Ok prog N ∧ C_predtext_parser_and_v927.Ok prog N ∧ C_predtext_parser_part_v927.Ok prog N
  | 0 => ⟨⟨o_predtext_parser_or_v927.is.enters, fun a r h => by (have h : none = some r := h; cases h)⟩, ⟨o_predtext_parser_and_v927.is.enters, fun a r h => by (have h : none = some r := h; cases h)⟩, ⟨o_predtext_parser_part_v927.is.enters, fun a r h => by (have h : none = some r := h; cases h)⟩⟩
  | N + 1 => by
    obtain ⟨h_predtext_parser_or_v927, h_predtext_parser_and_v927, h_predtext_parser_part_v927⟩ := cs_predtext_parser_or_v927 N
    refine ⟨?_, ?_, ?_⟩
    · exact o_predtext_parser_or_v927.give tb_ok hm N (N + 1) (fun _ => ⟨h_predtext_parser_and_v927, c_predtext_parser_eat_v368 N, c_predtext_above N, trivial⟩) fun a r s h => by
        have l0 := s.loop 0 q_predtext_parser_or_v927_0 (f_predtext_parser_or_v927_0 N) N fun next0 h0 => by
          exact fun c v => s.seg 0 q_predtext_parser_or_v927_0 [(0, .of q_predtext_parser_or_v927_0 next0)] ⟨h0, trivial⟩ (by kernel_rfl) (by kernel_rfl)
        exact s.main [(0, .of q_predtext_parser_or_v927_0 (r_predtext_parser_or_v927_0 N))] ⟨l0, trivial⟩ (.trans (by kernel_rfl) h)
    · exact o_predtext_parser_and_v927.give tb_ok hm N (N + 1) (fun _ => ⟨h_predtext_parser_part_v927, c_predtext_parser_eat_v368 N, c_predtext_above N, trivial⟩) fun a r s h => by
        have l0 := s.loop 0 q_predtext_parser_and_v927_0 (f_predtext_parser_and_v927_0 N) N fun next0 h0 => by
          exact fun c v => s.seg 0 q_predtext_parser_and_v927_0 [(0, .of q_predtext_parser_and_v927_0 next0)] ⟨h0, trivial⟩ (by kernel_rfl) (by kernel_rfl)
        exact s.main [(0, .of q_predtext_parser_and_v927_0 (r_predtext_parser_and_v927_0 N))] ⟨l0, trivial⟩ (.trans (by kernel_rfl) h)
    · exact o_predtext_parser_part_v927.give tb_ok hm N (N + 1) (fun _ => ⟨c_predtext_parser_deeper_v927 N, c_predtext_parser_eat_v368 N, h_predtext_parser_part_v927, c_predtext_above N, h_predtext_parser_or_v927, c_predtext_parser_fail_v927 N, c_predtext_parser_sum_v424 N, c_predtext_parser_next_v424 N, c_compare_Op N, c_predtext_parser_take_v128 N, trivial⟩) fun a r s h => by
        exact s.main [] trivial (.trans (by kernel_rfl) h)
theorem c_predtext_parser_or_v927 (N : Nat) : C_predtext_parser_or_v927.Ok prog N := (cs_predtext_parser_or_v927 N).1
noncomputable def F_pred_Node_stands : Fn C_pred_Node_stands := ⟨f38, [], ⟨[], [], sbf, bof⟩, fun _ => [], [true], none, 0, 0, fun _ _ => true, none, [], []⟩
theorem o_pred_Node_stands : F_pred_Node_stands.Ok prog := ⟨Is.of (by kernel_rfl) (by kernel_rfl), by kernel_rfl, hint_sb sb_ok bo_ok, trivial, trivial, fun _ => by kernel_rfl⟩
theorem c_pred_Node_stands (N : Nat) : C_pred_Node_stands.Ok prog N := o_pred_Node_stands.give tb_ok hm N N (fun _ => trivial) fun a r s h => by
  exact s.main [] trivial (.trans (by kernel_rfl) h)
noncomputable def F_schema_letter : Fn C_schema_letter := ⟨f97, [], ⟨[], [], sbf, bof⟩, fun _ => [], [true], none, 0, 0, fun _ _ => true, none, [], []⟩
theorem o_schema_letter : F_schema_letter.Ok prog := ⟨Is.of (by kernel_rfl) (by kernel_rfl), by kernel_rfl, hint_sb sb_ok bo_ok, trivial, trivial, fun _ => by kernel_rfl⟩
theorem c_schema_letter (N : Nat) : C_schema_letter.Ok prog N := o_schema_letter.give tb_ok hm N N (fun _ => trivial) fun a r s h => by
  exact s.main [] trivial (.trans (by kernel_rfl) h)
noncomputable def F_schema_Reserved : Fn C_schema_Reserved := ⟨f98, [], ⟨[], [], sbf, bof⟩, fun _ => [], [true], none, 0, 0, fun _ _ => true, none, [], []⟩
theorem o_schema_Reserved : F_schema_Reserved.Ok prog := ⟨Is.of (by kernel_rfl) (by kernel_rfl), by kernel_rfl, hint_sb sb_ok bo_ok, trivial, trivial, fun _ => by kernel_rfl⟩
theorem c_schema_Reserved (N : Nat) : C_schema_Reserved.Ok prog N := o_schema_Reserved.give tb_ok hm N N (fun _ => trivial) fun a r s h => by
  exact s.main [] trivial (.trans (by kernel_rfl) h)
noncomputable def F_schema_tail : Fn C_schema_tail := ⟨f99, [], ⟨[], [], sbf, bof⟩, fun _ => [C_schema_letter], [true], none, 0, 0, fun _ _ => true, none, [], []⟩
theorem o_schema_tail : F_schema_tail.Ok prog := ⟨Is.of (by kernel_rfl) (by kernel_rfl), by kernel_rfl, hint_sb sb_ok bo_ok, trivial, trivial, fun _ => by kernel_rfl⟩
theorem c_schema_tail (N : Nat) : C_schema_tail.Ok prog N := o_schema_tail.give tb_ok hm N N (fun _ => ⟨c_schema_letter N, trivial⟩) fun a r s h => by
  exact s.main [] trivial (.trans (by kernel_rfl) h)
noncomputable def F_schema_Name : Fn C_schema_Name := ⟨f61, [], ⟨[], [], sbf, bof⟩, fun _ => [C_schema_letter, C_schema_Reserved, C_schema_tail], [true], none, 0, 0, fun _ _ => true, none, [], []⟩
theorem o_schema_Name : F_schema_Name.Ok prog := ⟨Is.of (by kernel_rfl) (by kernel_rfl), by kernel_rfl, hint_sb sb_ok bo_ok, trivial, trivial, fun _ => by kernel_rfl⟩
theorem c_schema_Name (N : Nat) : C_schema_Name.Ok prog N := o_schema_Name.give tb_ok hm N N (fun _ => ⟨c_schema_letter N, c_schema_Reserved N, c_schema_tail N, trivial⟩) fun a r s h => by
  have l0 := s.loop 0 q_schema_Name_0 (f_schema_Name_0 N) N fun next0 h0 => by
    exact fun c v => s.seg 0 q_schema_Name_0 [(0, .of q_schema_Name_0 next0)] ⟨h0, trivial⟩ (by kernel_rfl) (by kernel_rfl)
  exact s.main [(0, .of q_schema_Name_0 (r_schema_Name_0 N))] ⟨l0, trivial⟩ (.trans (by kernel_rfl) h)
noncomputable def F_value_core : Fn C_value_core := ⟨f100, [], ⟨[], [], sbf, bof⟩, fun _ => [], [false], none, 0, 0, fun _ _ => true, none, [], []⟩
theorem o_value_core : F_value_core.Ok prog := ⟨Is.of (by kernel_rfl) (by kernel_rfl), by kernel_rfl, hint_sb sb_ok bo_ok, trivial, trivial, fun _ => by kernel_rfl⟩
theorem c_value_core (N : Nat) : C_value_core.Ok prog N := o_value_core.give tb_ok hm N N (fun _ => trivial) fun a r s h => by
  exact s.main [] trivial (.trans (by kernel_rfl) h)
noncomputable def F_value_number_whole : Fn C_value_number_whole := ⟨f244, [], ⟨[], [], sbf, bof⟩, fun _ => [], [true], none, 0, 0, fun _ _ => true, none, [], []⟩
theorem o_value_number_whole : F_value_number_whole.Ok prog := ⟨Is.of (by kernel_rfl) (by kernel_rfl), by kernel_rfl, hint_sb sb_ok bo_ok, trivial, trivial, fun _ => by kernel_rfl⟩
theorem c_value_number_whole (N : Nat) : C_value_number_whole.Ok prog N := o_value_number_whole.give tb_ok hm N N (fun _ => trivial) fun a r s h => by
  exact s.main [] trivial (.trans (by kernel_rfl) h)
noncomputable def F_value_flag_whole : Fn C_value_flag_whole := ⟨f245, [], ⟨[], [], sbf, bof⟩, fun _ => [], [true], none, 0, 0, fun _ _ => true, none, [], []⟩
theorem o_value_flag_whole : F_value_flag_whole.Ok prog := ⟨Is.of (by kernel_rfl) (by kernel_rfl), by kernel_rfl, hint_sb sb_ok bo_ok, trivial, trivial, fun _ => by kernel_rfl⟩
theorem c_value_flag_whole (N : Nat) : C_value_flag_whole.Ok prog N := o_value_flag_whole.give tb_ok hm N N (fun _ => trivial) fun a r s h => by
  exact s.main [] trivial (.trans (by kernel_rfl) h)
noncomputable def F_real_of : Fn C_real_of := ⟨f139, [(164, .fb)], ⟨[], [], sbf, bof⟩, fun _ => [], [true], none, 0, 0, fun _ _ => true, none, [], []⟩
theorem o_real_of : F_real_of.Ok prog := ⟨Is.of (by kernel_rfl) (by kernel_rfl), by kernel_rfl, hint_sb sb_ok bo_ok, trivial, ⟨ExtIs.mk' f164 (by kernel_rfl) (by kernel_rfl) (by kernel_rfl) (by kernel_rfl) (by kernel_rfl), trivial⟩, fun _ => by kernel_rfl⟩
theorem c_real_of (N : Nat) : C_real_of.Ok prog N := o_real_of.give tb_ok hm N N (fun _ => trivial) fun a r s h => by
  exact s.main [] trivial (.trans (by kernel_rfl) h)
noncomputable def F_real_Clean : Fn C_real_Clean := ⟨f101, [], ⟨[], [], sbf, bof⟩, fun _ => [C_real_of], [true], none, 0, 0, fun _ _ => true, none, [], []⟩
theorem o_real_Clean : F_real_Clean.Ok prog := ⟨Is.of (by kernel_rfl) (by kernel_rfl), by kernel_rfl, hint_sb sb_ok bo_ok, trivial, trivial, fun _ => by kernel_rfl⟩
theorem c_real_Clean (N : Nat) : C_real_Clean.Ok prog N := o_real_Clean.give tb_ok hm N N (fun _ => ⟨c_real_of N, trivial⟩) fun a r s h => by
  exact s.main [] trivial (.trans (by kernel_rfl) h)
noncomputable def F_value_double_whole : Fn C_value_double_whole := ⟨f246, [], ⟨[], [], sbf, bof⟩, fun _ => [], [true], none, 0, 0, fun _ _ => true, none, [], []⟩
theorem o_value_double_whole : F_value_double_whole.Ok prog := ⟨Is.of (by kernel_rfl) (by kernel_rfl), by kernel_rfl, hint_sb sb_ok bo_ok, trivial, trivial, fun _ => by kernel_rfl⟩
theorem c_value_double_whole (N : Nat) : C_value_double_whole.Ok prog N := o_value_double_whole.give tb_ok hm N N (fun _ => trivial) fun a r s h => by
  exact s.main [] trivial (.trans (by kernel_rfl) h)
noncomputable def F_value_words_whole : Fn C_value_words_whole := ⟨f247, [], ⟨[], [], sbf, bof⟩, fun _ => [], [true], none, 0, 0, fun _ _ => true, none, [], []⟩
theorem o_value_words_whole : F_value_words_whole.Ok prog := ⟨Is.of (by kernel_rfl) (by kernel_rfl), by kernel_rfl, hint_sb sb_ok bo_ok, trivial, trivial, fun _ => by kernel_rfl⟩
theorem c_value_words_whole (N : Nat) : C_value_words_whole.Ok prog N := o_value_words_whole.give tb_ok hm N N (fun _ => trivial) fun a r s h => by
  exact s.main [] trivial (.trans (by kernel_rfl) h)
noncomputable def F_value_Check : Fn C_value_Check := ⟨f62, [], ⟨[], [], sbf, bof⟩, fun _ => [C_value_core, C_value_number_whole, C_value_flag_whole, C_real_Clean, C_value_double_whole, C_value_words_whole], [true], none, 0, 0, fun _ _ => true, none, [], []⟩
theorem o_value_Check : F_value_Check.Ok prog := ⟨Is.of (by kernel_rfl) (by kernel_rfl), by kernel_rfl, hint_sb sb_ok bo_ok, trivial, trivial, fun _ => by kernel_rfl⟩
theorem c_value_Check (N : Nat) : C_value_Check.Ok prog N := o_value_Check.give tb_ok hm N N (fun _ => ⟨c_value_core N, c_value_number_whole N, c_value_flag_whole N, c_real_Clean N, c_value_double_whole N, c_value_words_whole N, trivial⟩) fun a r s h => by
  exact s.main [] trivial (.trans (by kernel_rfl) h)
end
end
end Go.Proofs.YtbanfalnbhcknaaGreatDoor.Y
