/- predtext.Parse, walked: it defers, and recovers what its parser gives up with. No premise beyond what each theorem says. -/
import Derived.Test.YtahklhniofiofaaGreatDoorDG3
import Derived.Tactics
import Derived.Tactics2
import Derived.Defers
import Derived.Recover
import Derived.WalkKit
import Derived.Deep.RegionHeld3
import Derived.Test.YtahklhniofiofaaGreatDoorDA3
set_option linter.all false
set_option linter.unusedSimpArgs false
set_option linter.unusedVariables false
set_option linter.unusedVariables false
set_option linter.unusedSimpArgs false
namespace Go.Proofs.YtahklhniofiofaaGreatDoor.D
open Go Go.RowKit Go.Proofs.Tryz
set_option maxHeartbeats 4000000
set_option maxRecDepth 1000000
theorem ta_nil (w : World) : (Instr.typeAssert .nilIface 20 252 true).run Tryz.prog w = .ok (.tuple #[.agg #[.int .i64 0, .int .i64 0], .bool false]) w := by
  obtain ⟨z, hz⟩ : ∃ z, cTa Tryz.prog 252 = some z := ⟨.agg [.v (.int .i64 0), .v (.int .i64 0)], by kernel_rfl⟩
  obtain ⟨⟨d, hd, hn⟩, i, zv, hi, hzv, rfl⟩ := cTa_some hz
  have hv : (zeroValue 252).run Tryz.prog w = .ok (.agg #[.int .i64 0, .int .i64 0]) w := Tryz.zeroValue252 w
  simp only [Instr.typeAssert, Sem.run_bind, run_underlying hd, Result.andThen_ok]
  cases d <;> first | exact absurd rfl (hn _) | (simp only [if_true, Sem.run_bind, Sem.run_pure, hv, Result.andThen_ok])
theorem ta_hit (x : Value) (w : World) : (Instr.typeAssert (.iface 252 x) 20 252 true).run Tryz.prog w = .ok (.tuple #[x, .bool true]) w := by
  obtain ⟨z, hz⟩ : ∃ z, cTa Tryz.prog 252 = some z := ⟨.agg [.v (.int .i64 0), .v (.int .i64 0)], by kernel_rfl⟩
  obtain ⟨⟨d, hd, hn⟩, i, zv, hi, hzv, rfl⟩ := cTa_some hz
  simp only [Instr.typeAssert, Sem.run_bind, run_underlying hd, Result.andThen_ok]
  cases d <;> first | exact absurd rfl (hn _) | rfl | simp [Sem.run_bind, Sem.run_pure]
theorem catch_idle (p q r : Addr) (w : World) : CallsD Tryz.prog 176 #[.pointer (some p), .pointer (some q), .pointer (some r)] .returning w fun e u' w' =>
    e = .returned (.tuple #[]) ∧ u' = .returning ∧ w' = w.alloc (.cells #[.int .i64 0, .int .i64 0] 252) := by
  refine callsD_of_wpS Tryz.func176 rfl fun c₀ cs hu => ?_
  simp only [Tryz.ntmps176, List.size_toArray, List.length_cons, List.length_nil, Nat.reduceAdd, Nat.reduceSub, Array.replicate_succ,
     Array.replicate_zero, List.push_toArray, List.append_toArray, List.nil_append, List.cons_append]
  apply wpS_seq
  apply wpS_region
  simp [wpOpsS, go_sem, recoverD, hu, Exit.thenS, ta_nil]
  refine wpS_of_wp ?_
  go_wp2
  exact ⟨rfl, _, (by rw [← hu]), _, results_none rfl _ _ _, rfl, rfl, rfl⟩
theorem after_new {w W : World} {x y : Int} {a b c : Value} {g : Nat} {ta tb tc : TypeId} (h0 : w.heap[g]? = some (.cells #[a] ta (0, 0))) (h1 : w.heap[g + 1]? = some (.cells #[b] tb (0, 0))) (h2 : w.heap[g + 2]? = some (.cells #[c] tc (0, 0)))
    (hW : W = (w.alloc (.cells #[.int .i64 x, .int .i64 y] 252)).alloc (.cells #[.int .i64 x, .int .i64 y] 87)) :
    Grew w W ∧ W.heap[w.heap.size + 1]? = some (.cells #[.int .i64 x, .int .i64 y] 87 (0, 0)) ∧ w.heap.size + 1 < W.heap.size ∧
      W.cell? ⟨g, 0, none⟩ = some a ∧ W.cell? ⟨g + 1, 0, none⟩ = some b ∧ W.cell? ⟨g + 2, 0, none⟩ = some c ∧ W.frozen? ⟨g, 0, none⟩ = false ∧ W.frozen? ⟨g + 1, 0, none⟩ = false ∧ W.frozen? ⟨g + 2, 0, none⟩ = false := by
  subst hW
  have hG := grew_two w (.cells #[.int .i64 x, .int .i64 y] 252) (.cells #[.int .i64 x, .int .i64 y] 87)
  have hH : ((w.alloc (.cells #[.int .i64 x, .int .i64 y] 252)).alloc (.cells #[.int .i64 x, .int .i64 y] 87)).heap[w.heap.size + 1]? = some (.cells #[.int .i64 x, .int .i64 y] 87 (0, 0)) := by
    rw [show w.heap.size + 1 = (w.alloc (.cells #[.int .i64 x, .int .i64 y] 252)).heap.size by simp]
    exact push_new _ _
  have hl : ∀ {i : Nat} {o : Obj}, w.heap[i]? = some o → i < w.heap.size := fun h => (Array.getElem?_eq_some_iff.1 h).1
  have k0 := (hG.old g (hl h0)).trans h0
  have k1 := (hG.old (g + 1) (hl h1)).trans h1
  have k2 := (hG.old (g + 2) (hl h2)).trans h2
  generalize (w.alloc (.cells #[.int .i64 x, .int .i64 y] 252)).alloc (.cells #[.int .i64 x, .int .i64 y] 87) = W at *
  refine ⟨hG, hH, (Array.getElem?_eq_some_iff.1 hH).1, ?_, ?_, ?_, ?_, ?_, ?_⟩ <;> simp [World.cell?, World.frozen?, k0, k1, k2]
theorem catch_panicking (g : Nat) (x y : Int) (hx : x ≠ 0) (a b c : Value) (ta tb tc : TypeId) (older : List PanicEntry) (w : World) (h0 : w.heap[g]? = some (.cells #[a] ta (0, 0))) (h1 : w.heap[g + 1]? = some (.cells #[b] tb (0, 0))) (h2 : w.heap[g + 2]? = some (.cells #[c] tc (0, 0))) :
    CallsD Tryz.prog 176 #[.pointer (some ⟨g, 0, none⟩), .pointer (some ⟨g + 1, 0, none⟩), .pointer (some ⟨g + 2, 0, none⟩)] (.panicking ({ v := .iface 252 (.agg #[.int .i64 x, .int .i64 y]), recovered := false } :: older)) w fun e u' w' =>
    e = .returned (.tuple #[]) ∧ u' = .panicking ({ v := .iface 252 (.agg #[.int .i64 x, .int .i64 y]), recovered := true } :: older) ∧
      ∃ W h, Grew w W ∧ w.heap.size ≤ h ∧ W.heap[h]? = some (.cells #[.int .i64 x, .int .i64 y] 87 (0, 0)) ∧ h < W.heap.size ∧
        w' = ((W.setCell ⟨g, 0, none⟩ (.slice none 0 0)).setCell ⟨g + 1, 0, none⟩ (.int .i64 0)).setCell ⟨g + 2, 0, none⟩ (.iface 84 (.pointer (some ⟨h, 0, none⟩))) := by
  have g2 : g + 2 < w.heap.size := (Array.getElem?_eq_some_iff.1 h2).1
  refine callsD_of_wpS Tryz.func176 rfl fun c₀ cs hu => ?_
  simp only [Tryz.ntmps176, List.size_toArray, List.length_cons, List.length_nil, Nat.reduceAdd, Nat.reduceSub, Array.replicate_succ,
     Array.replicate_zero, List.push_toArray, List.append_toArray, List.nil_append, List.cons_append]
  apply wpS_seq
  apply wpS_region
  simp [wpOpsS, go_sem, recoverD, hu, Exit.thenS, ta_hit]
  refine wpS_of_wp ?_
  go_wp2_with (go_at_call 23; refine (new_some _ _ hx _).mono ?_; rintro e W ⟨rfl, hW⟩; obtain ⟨hG, hH, hs, c0, c1, c2, f0, f1, f2⟩ := after_new h0 h1 h2 hW; clear hW)
  exact ⟨rfl, _, rfl, _, results_none rfl _ _ _, rfl, rfl, _, hG, w.heap.size + 1, by omega, hH, hs, rfl⟩
/-- What stands while the parser works. -/
structure PS (w0 : World) (S0 : Nat → Prop) (l : List lex_Token) (a e : Int) (w : World) (S : Nat → Prop) : Prop where
  os : w.os = w0.os
  tape : w.tape = w0.tape
  output : w.output = w0.output
  old : ∀ i, i < w0.heap.size → w.heap[i]? = w0.heap[i]?
  size : w0.heap.size + 4 ≤ w.heap.size
  sub : ∀ i, S0 i → S i
  sits0 : ∀ i, S0 i → i < w0.heap.size
  news : ∀ i, S i → S0 i ∨ w0.heap.size + 4 ≤ i
  sits : ∀ i, S i → i < w.heap.size
  box : ∃ vl T, w.heap[w0.heap.size + 3]? = some (.cells #[vl, .int .i64 a, .int .i64 e] T (0, 0)) ∧ DRep S w vl (.sl 7 (l.map eA0))
  prot : ∀ i v, envCell Tryz.prog = some (i, v) → w0.cell? ⟨i, 0, none⟩ = some v ∧ i < w0.heap.size
def psH (l : List lex_Token) (a e : Int) : AH := ⟨[[.sl 7 (l.map eA0), .v (.int .i64 a), .v (.int .i64 e)]], []⟩
def psN : Maps := ⟨0, 0, fun _ => 0, fun _ => undef⟩
def psM (g : Nat) : Maps := ⟨1, 0, fun _ => g, fun _ => undef⟩
theorem drep_sl {M : Maps} {S : Nat → Prop} {w : World} {v : Value} {k : Nat} {xs : List AV} (h : VRep M S w v (.sl k xs)) : DRep S w v (.sl k xs) := by
  cases h with
  | data h => exact h
section
variable {w0 : World} {S0 : Nat → Prop} {l : List lex_Token} {a e : Int} {w : World} {S : Nat → Prop}
theorem PS.rel (h : PS w0 S0 l a e w S) : RelH (psM (w0.heap.size + 3)) S (psH l a e) w where
  nb := rfl
  nt := rfl
  sits := h.sits
  box b hb := by
    obtain rfl : b = 0 := by simp [psH] at hb; exact hb
    obtain ⟨vl, T, h1, h2⟩ := h.box
    refine ⟨fun hs => ?_, _, T, h1, rfl, fun i hi => ?_⟩
    · rcases h.news _ hs with h3 | h3
      · have := h.sits0 _ h3
        simp only [psM] at this; omega
      · simp only [psM] at h3; omega
    · match i, hi with
      | 0, _ => exact ⟨rfl, .data h2⟩
      | 1, _ => exact ⟨rfl, .data (.v _)⟩
      | 2, _ => exact ⟨rfl, .data (.v _)⟩
  buf t ht := by cases ht
  bb b b' hb hb' _ := by simp [psH] at hb hb'; omega
  tt t t' g h1 := by cases h1.1
  bt b t g _ h1 := by cases h1.1
theorem PS.ft (h : PS w0 S0 l a e w S) {g : Nat} : foot (psM (w0.heap.size + 3)) (psH l a e) g ↔ g = w0.heap.size + 3 := by
  constructor
  · rintro (⟨b, _, rfl⟩ | ⟨t, ht, _⟩)
    · rfl
    · cases ht
  · rintro rfl; exact .inl ⟨0, by simp [psH], rfl⟩
theorem PS.pr (h : PS w0 S0 l a e w S) : Prot Tryz.prog (psM (w0.heap.size + 3)) (psH l a e) w := by
  intro i v hi
  obtain ⟨h1, h3⟩ := h.prot i v hi
  refine ⟨?_, fun hf => ?_, ?_⟩
  · rw [← h1]; simp only [World.cell?, h.old i h3]
  · have := h.ft.1 hf; omega
  · have := h.size; omega
/-- What a call leaves that is lent the parser. -/
theorem PS.call (h : PS w0 S0 l a e w S) {M' : Maps} {S' : Nat → Prop} {l' : List lex_Token} {a' e' : Int} {w' : World} (hh : RelH M' S' (psH l' a' e') w') (hf : Frm (psM (w0.heap.size + 3)) S (psH l a e) w M' S' (psH l' a' e') w') :
    PS w0 S0 l' a' e' w' S' ∧ ∀ i, i < w.heap.size → i ≠ w0.heap.size + 3 → w'.heap[i]? = w.heap[i]? := by
  have hb0 : M'.box 0 = w0.heap.size + 3 := hf.le.box 0 (by simp [psM])
  have hsame : ∀ i, i < w.heap.size → i ≠ w0.heap.size + 3 → w'.heap[i]? = w.heap[i]? := fun i hi hn => hf.old i hi fun hft => hn (h.ft.1 hft)
  have hsz := h.size
  obtain ⟨hun, c, T, h1, h2, h3⟩ := hh.box 0 (by simp [psH])
  rw [hb0] at hun h1
  refine ⟨⟨hf.os.trans h.os, hf.tape.trans h.tape, hf.output.trans h.output, fun i hi => (hsame i (by omega) (by omega)).trans (h.old i hi), Nat.le_trans hsz hf.size, fun i hi => hf.sub i (h.sub i hi), h.sits0, fun i hi => ?_, hh.sits, ?_, h.prot⟩, hsame⟩
  · rcases hf.news i hi with h4 | h4 | h4
    · exact h.news i h4
    · exact absurd (h.ft.1 h4 ▸ hi) hun
    · right; omega
  · have hc : c.size = 3 := h2
    obtain ⟨x, y, z, rfl⟩ : ∃ x y z, c = #[x, y, z] := by
      match c, hc with
      | ⟨[x, y, z]⟩, _ => exact ⟨x, y, z, rfl⟩
    have q0 : VRep M' S' w' x (.sl 7 (l'.map eA0)) := (h3 0 (by simp [psH])).2
    have q1 : y = .int .i64 a' := VRep.v_eq (h3 1 (by simp [psH])).2
    have q2 : z = .int .i64 e' := VRep.v_eq (h3 2 (by simp [psH])).2
    subst q1; subst q2
    exact ⟨x, T, h1, drep_sl q0⟩
/-- What a call leaves that is lent nothing. -/
theorem PS.pure (h : PS w0 S0 l a e w S) {M' : Maps} {S' : Nat → Prop} {w' : World} (hh : RelH M' S' AH.nil w') (hf : Frm psN S AH.nil w M' S' AH.nil w') :
    PS w0 S0 l a e w' S' ∧ ∀ i, i < w.heap.size → w'.heap[i]? = w.heap[i]? := by
  have nof : ∀ i, ¬ Go.Proofs.YtahklhniofiofaaGreatDoor.D.foot psN AH.nil i := fun i hi => by
    rcases hi with ⟨b, hb, _⟩ | ⟨t, ht, _⟩
    · simp [AH.nil] at hb
    · simp [AH.nil] at ht
  have hsame : ∀ i, i < w.heap.size → w'.heap[i]? = w.heap[i]? := fun i hi => hf.old i hi (nof i)
  have hsz := h.size
  obtain ⟨vl, T, h1, h2⟩ := h.box
  refine ⟨⟨hf.os.trans h.os, hf.tape.trans h.tape, hf.output.trans h.output, fun i hi => (hsame i (by omega)).trans (h.old i hi), Nat.le_trans hsz hf.size, fun i hi => hf.sub i (h.sub i hi), h.sits0, fun i hi => ?_, hh.sits, ⟨vl, T, (hsame _ (by omega)).trans h1, h2.mono hf.sub hf.stab⟩, h.prot⟩, hsame⟩
  rcases hf.news i hi with h4 | h4 | h4
  · exact h.news i h4
  · exact absurd h4 (nof i)
  · right; omega
/-- Stores into what is not the data's. -/
theorem PS.upd (h : PS w0 S0 l a e w S) {w' : World} (ho : w'.os = w.os) (ht : w'.tape = w.tape) (hu : w'.output = w.output) (hz : w.heap.size ≤ w'.heap.size) (hs : ∀ i, i < w.heap.size → (i < w0.heap.size ∨ w0.heap.size + 3 ≤ i) → w'.heap[i]? = w.heap[i]?) : PS w0 S0 l a e w' S := by
  have hsz := h.size
  obtain ⟨vl, T, h1, h2⟩ := h.box
  have hst : ∀ g, S g → w'.heap[g]? = w.heap[g]? := fun g hg => hs g (h.sits g hg) (by
    rcases h.news g hg with h3 | h3
    · exact .inl (h.sits0 g h3)
    · right; omega)
  exact ⟨ho.trans h.os, ht.trans h.tape, hu.trans h.output, fun i hi => (hs i (by omega) (.inl hi)).trans (h.old i hi), Nat.le_trans hsz hz, h.sub, h.sits0, h.news, fun i hi => Nat.lt_of_lt_of_le (h.sits i hi) hz, ⟨vl, T, (hs _ (by omega) (.inr (Nat.le_refl _))).trans h1, h2.mono (fun _ h => h) hst⟩, h.prot⟩
theorem PS.rel0 (h : PS w0 S0 l a e w S) : RelH psN S AH.nil w where
  nb := rfl
  nt := rfl
  sits := h.sits
  box b hb := by cases hb
  buf t ht := by cases ht
  bb b b' hb _ _ := by cases hb
  tt t t' g h1 := by cases h1.1
  bt b t g hb := by cases hb
theorem PS.pr0 (h : PS w0 S0 l a e w S) : Prot Tryz.prog psN AH.nil w := by
  intro i v hi
  obtain ⟨h1, h2, h3⟩ := h.pr i v hi
  refine ⟨h1, fun hf => ?_, h3⟩
  rcases hf with ⟨b, hb, _⟩ | ⟨t, ht, _⟩
  · cases hb
  · cases ht
theorem place_at (N : Nat) (h : PS w0 S0 l a e w S) {x : Int × List lex_Token × Int × Int} (hx : s_predtext_parser_place_v424 N l a e = some x) :
    Calls Tryz.prog 175 #[.pointer (some ⟨w0.heap.size + 3, 0, none⟩)] w fun r w' => r = .returned (.int .i64 x.1) ∧ ∃ S', PS w0 S0 x.2.1 x.2.2.1 x.2.2.2 w' S' ∧ ∀ i, i < w.heap.size → i ≠ w0.heap.size + 3 → w'.heap[i]? = w.heap[i]? := by
  have hc := (c_predtext_parser_place_v424 N).res (((), ()), ((l, a, e, ()), ()), ()) x hx
  refine (hc (psM (w0.heap.size + 3)) S w #[.pointer (some ⟨w0.heap.size + 3, 0, none⟩)] h.rel h.pr rfl fun i hi => ?_).mono ?_
  · match i, hi with
    | 0, _ => exact .ptr 0 0 (Nat.zero_lt_one)
  · rintro r w' ⟨M', S', hend, hh, hf⟩
    have hv : EndRep M' S' w' r (.ret (.v (.int .i64 x.1))) := hend
    obtain ⟨h1, h2⟩ := h.call hh hf
    cases r with
    | returned v => exact ⟨congrArg _ (VRep.v_eq hv), S', h1, h2⟩
    | panicked _ => exact hv.elim
    | outgrown => exact hv.elim
theorem or_at (N : Nat) (h : PS w0 S0 l a e w S) {r : (Int × Int × List lex_Token × Int × Int) ⊕ (List pred_Node × List lex_Token × Int × Int)} (hx : s_predtext_parser_or_v927 N 0 l a e = some r) :
    Calls Tryz.prog 177 #[.pointer (some ⟨w0.heap.size + 3, 0, none⟩), .int .i64 0] w fun en w' => ∃ S', (match r with
      | .inl x => en = .panicked [{ v := .iface 252 (.agg #[.int .i64 x.1, .int .i64 x.2.1]), recovered := false }] ∧ PS w0 S0 x.2.2.1 x.2.2.2.1 x.2.2.2.2 w' S'
      | .inr x => ∃ v, en = .returned v ∧ DRep S' w' v (.sl 8 (x.1.map eA3)) ∧ PS w0 S0 x.2.1 x.2.2.1 x.2.2.2 w' S') ∧ ∀ i, i < w.heap.size → i ≠ w0.heap.size + 3 → w'.heap[i]? = w.heap[i]? := by
  have hc := (c_predtext_parser_or_v927 N).res (((), 0, ()), ((l, a, e, ()), ()), ()) r hx
  refine (hc (psM (w0.heap.size + 3)) S w #[.pointer (some ⟨w0.heap.size + 3, 0, none⟩), .int .i64 0] h.rel h.pr rfl fun i hi => ?_).mono ?_
  · match i, hi with
    | 0, _ => exact .ptr 0 0 (Nat.zero_lt_one)
    | 1, _ => exact .data (.v _)
  · rintro en w' ⟨M', S', hend, hh, hf⟩
    match r, hend, hh, hf with
    | .inl x, hend, hh, hf =>
      obtain ⟨h1, h2⟩ := h.call hh hf
      have hv : EndRep M' S' w' en (.pan (.ifc 252 (.agg ([.int .i64 x.1, .int .i64 x.2.1].map .v)))) := hend
      refine ⟨S', ⟨?_, h1⟩, h2⟩
      cases en with
      | panicked ch =>
        obtain ⟨v, rfl, hv⟩ := hv
        cases hv with
        | data hv => cases hv with | ifc _ u _ hu => rw [agg_vals (M := psN) (.data hu)]
        | ifc _ u _ hu => rw [agg_vals hu]
      | returned _ => exact hv.elim
      | outgrown => exact hv.elim
    | .inr x, hend, hh, hf =>
      obtain ⟨h1, h2⟩ := h.call hh hf
      have hv : EndRep M' S' w' en (.ret (.sl 8 (x.1.map eA3))) := hend
      cases en with
      | returned v => exact ⟨S', ⟨v, rfl, drep_sl hv, h1⟩, h2⟩
      | panicked _ => exact hv.elim
      | outgrown => exact hv.elim
theorem check_at (N : Nat) (h : PS w0 S0 l a e w S) {ns : List pred_Node} {v : Value} (hv : DRep S w v (.sl 8 (ns.map eA3))) {c : Int} (hx : s_pred_Check N ns = some c) :
    Calls Tryz.prog 110 #[v] w fun en w' => en = .returned (.int .i64 c) ∧ ∃ S', PS w0 S0 l a e w' S' ∧ (∀ i, i < w.heap.size → w'.heap[i]? = w.heap[i]?) ∧ DRep S' w' v (.sl 8 (ns.map eA3)) := by
  have hc := (c_pred_Check N).res (ns, ()) c hx
  refine (hc psN S w #[v] h.rel0 h.pr0 rfl fun i hi => ?_).mono ?_
  · match i, hi with
    | 0, _ => exact .data hv
  · rintro en w' ⟨M', S', hend, hh, hf⟩
    have hq : EndRep M' S' w' en (.ret (.v (.int .i64 c))) := hend
    obtain ⟨h1, h2⟩ := h.pure hh hf
    cases en with
    | returned u => exact ⟨congrArg _ (VRep.v_eq hq), S', h1, h2, hv.mono hf.sub hf.stab⟩
    | panicked _ => exact hq.elim
    | outgrown => exact hq.elim
theorem ps_start {M : Maps} {ad : Option Addr} {n cap : Nat} (hh : RelH M S0 AH.nil w0) (hp : Prot Tryz.prog M AH.nil w0) (hv : DRep S0 w0 (.slice ad n cap) (.sl 7 (l.map eA0))) (T1 T2 T3 T4 : TypeId) :
    PS w0 S0 l a e ((((w0.alloc (.cells #[.slice none 0 0] T1)).alloc (.cells #[.int .i64 0] T2)).alloc (.cells #[.nilIface] T3)).alloc (.cells #[.slice ad n cap, .int .i64 a, .int .i64 e] T4)) S0 := by
  have hG : Grew w0 ((((w0.alloc (.cells #[.slice none 0 0] T1)).alloc (.cells #[.int .i64 0] T2)).alloc (.cells #[.nilIface] T3)).alloc (.cells #[.slice ad n cap, .int .i64 a, .int .i64 e] T4)) :=
    ⟨rfl, rfl, rfl, by simp; omega, fun g hg => (push_old _ _ g (by simp; omega)).trans ((push_old _ _ g (by simp; omega)).trans ((push_old _ _ g (by simp; omega)).trans (push_old _ _ g hg)))⟩
  refine ⟨rfl, rfl, rfl, hG.old, by simp, fun _ h => h, hh.sits, fun i hi => .inl hi, fun i hi => Nat.lt_of_lt_of_le (hh.sits i hi) hG.size, ⟨_, T4, ?_, hv.mono (fun _ h => h) fun g hg => hG.old g (hh.sits g hg)⟩, fun i v hi => ⟨(hp i v hi).1, (hp i v hi).2.2⟩⟩
  rw [show w0.heap.size + 3 = (((w0.alloc (.cells #[.slice none 0 0] T1)).alloc (.cells #[.int .i64 0] T2)).alloc (.cells #[.nilIface] T3)).heap.size by simp]
  exact push_new _ _
end
theorem cell_at {w : World} {g : Nat} {v : Value} {T : TypeId} (h : w.heap[g]? = some (.cells #[v] T (0, 0))) : w.cell? ⟨g, 0, none⟩ = some v ∧ w.frozen? ⟨g, 0, none⟩ = false := by
  constructor <;> simp [World.cell?, World.frozen?, h]
theorem cell_of_same {w w' : World} {g i : Nat} (h : w'.heap[g]? = w.heap[g]?) : w'.cell? ⟨g, i, none⟩ = w.cell? ⟨g, i, none⟩ := by simp only [World.cell?, h]
theorem start_cells (w0 : World) (v1 v2 v3 : Value) (c : Array Value) (T1 T2 T3 T4 : TypeId) :
    let W := (((w0.alloc (.cells #[v1] T1)).alloc (.cells #[v2] T2)).alloc (.cells #[v3] T3)).alloc (.cells c T4)
    W.heap[w0.heap.size]? = some (.cells #[v1] T1 (0, 0)) ∧ W.heap[w0.heap.size + 1]? = some (.cells #[v2] T2 (0, 0)) ∧ W.heap[w0.heap.size + 2]? = some (.cells #[v3] T3 (0, 0)) ∧ W.heap.size = w0.heap.size + 4 := by
  refine ⟨?_, ?_, ?_, by simp⟩
  · exact (push_old _ _ _ (by simp; omega)).trans ((push_old _ _ _ (by simp; omega)).trans ((push_old _ _ _ (by simp)).trans (push_new _ _)))
  · rw [show w0.heap.size + 1 = (w0.alloc (.cells #[v1] T1)).heap.size by simp]
    exact (push_old _ _ _ (by simp)).trans ((push_old _ _ _ (by simp)).trans (push_new _ _))
  · rw [show w0.heap.size + 2 = ((w0.alloc (.cells #[v1] T1)).alloc (.cells #[v2] T2)).heap.size by simp]
    exact (push_old _ _ _ (by simp)).trans (push_new _ _)
theorem three_sets {W : World} {g i : Nat} {u v x : Value} (h : i ≠ g ∧ i ≠ g + 1 ∧ i ≠ g + 2) : (((W.setCell ⟨g, 0, none⟩ u).setCell ⟨g + 1, 0, none⟩ v).setCell ⟨g + 2, 0, none⟩ x).heap[i]? = W.heap[i]? := by
  rw [heap_setCell_other _ _ _ _ h.2.2, heap_setCell_other _ _ _ _ h.2.1, heap_setCell_other _ _ _ _ h.1]
theorem three_cells {W : World} {g : Nat} {u v x a b c : Value} {ta tb tc : TypeId} (h0 : W.heap[g]? = some (.cells #[a] ta (0, 0))) (h1 : W.heap[g + 1]? = some (.cells #[b] tb (0, 0))) (h2 : W.heap[g + 2]? = some (.cells #[c] tc (0, 0))) :
    let V := ((W.setCell ⟨g, 0, none⟩ u).setCell ⟨g + 1, 0, none⟩ v).setCell ⟨g + 2, 0, none⟩ x
    V.cell? ⟨g, 0, none⟩ = some u ∧ V.cell? ⟨g + 1, 0, none⟩ = some v ∧ V.cell? ⟨g + 2, 0, none⟩ = some x := by
  have k0 : (((W.setCell ⟨g, 0, none⟩ u).setCell ⟨g + 1, 0, none⟩ v).setCell ⟨g + 2, 0, none⟩ x).heap[g]? = some (.cells #[u] ta (0, 0)) := by
    rw [heap_setCell_other _ _ _ _ (show g ≠ g + 2 by omega), heap_setCell_other _ _ _ _ (show g ≠ g + 1 by omega), heap_setCell_same _ _ _ _ _ _ h0]; rfl
  have k1 : (((W.setCell ⟨g, 0, none⟩ u).setCell ⟨g + 1, 0, none⟩ v).setCell ⟨g + 2, 0, none⟩ x).heap[g + 1]? = some (.cells #[v] tb (0, 0)) := by
    rw [heap_setCell_other _ _ _ _ (show g + 1 ≠ g + 2 by omega), heap_setCell_same _ _ _ _ _ _ (by rw [heap_setCell_other _ _ _ _ (show g + 1 ≠ g by omega)]; exact h1)]; rfl
  have k2 : (((W.setCell ⟨g, 0, none⟩ u).setCell ⟨g + 1, 0, none⟩ v).setCell ⟨g + 2, 0, none⟩ x).heap[g + 2]? = some (.cells #[x] tc (0, 0)) := by
    rw [heap_setCell_same _ _ _ _ _ _ (by rw [heap_setCell_other _ _ _ _ (show g + 2 ≠ g + 1 by omega), heap_setCell_other _ _ _ _ (show g + 2 ≠ g by omega)]; exact h2)]; rfl
  exact ⟨(cell_at k0).1, (cell_at k1).1, (cell_at k2).1⟩
/-- The parser gives up. -/
theorem parse_panic (N : Nat) {M : Maps} {S0 : Nat → Prop} {w0 : World} {l : List lex_Token} {a e : Int} {ad : Option Addr} {cap : Nat} (hh : RelH M S0 AH.nil w0) (hp : Prot Tryz.prog M AH.nil w0) (hv : DRep S0 w0 (.slice ad l.length cap) (.sl 7 (l.map eA0)))
    (ha : ¬ a < 0) (hb : ¬ a > (l.length : Int)) {x : Int × List lex_Token × Int × Int} (hx : s_predtext_parser_place_v424 N l a e = some x) {y : Int × Int × List lex_Token × Int × Int} (hy : s_predtext_parser_or_v927 N 0 x.2.1 x.2.2.1 x.2.2.2 = some (.inl y)) (hy0 : y.1 ≠ 0) :
    Calls Tryz.prog 164 #[.slice ad l.length cap, .int .i64 a, .int .i64 e] w0 fun en w' => ∃ h S', en = .returned (.tuple #[.slice none 0 0, .int .i64 0, .iface 84 (.pointer (some ⟨h, 0, none⟩))]) ∧ w0.heap.size ≤ h ∧ w'.heap[h]? = some (.cells #[.int .i64 y.1, .int .i64 y.2.1] 87 (0, 0)) ∧ h < w'.heap.size ∧ PS w0 S0 y.2.2.1 y.2.2.2.1 y.2.2.2.2 w' S' := by
  have hmf : ∀ (fn : Go.Fn) (first cap : Array Value) (w : World), (Instr.makeFunc fn first cap).run Tryz.prog w = .ok (.func fn first cap) w := fun _ _ _ _ => rfl
  go_enter_defers Tryz.func164, Tryz.ntmps164
  go_wp2_with (first
    | (go_at_call 175; refine (place_at N (ps_start (a := a) (e := e) hh hp hv _ _ _ _) hx).mono ?_; rintro r1 w3 ⟨rfl, S3, hps3, hk3⟩)
    | (go_at_call 177; refine (or_at N hps3 hy).mono ?_; rintro r2 w4 ⟨S4, ⟨rfl, hps4⟩, hk4⟩))
  obtain ⟨s0, s1, s2, s3⟩ := start_cells w0 (.slice none 0 0) (.int .i64 0) .nilIface #[.slice ad l.length cap, .int .i64 a, .int .i64 e] 44 3 27 250
  have z3 := hps3.size
  have z4 := hps4.size
  have k0 := (hk4 _ (by omega) (by omega)).trans ((hk3 w0.heap.size (by omega) (by omega)).trans s0)
  have k1 := (hk4 _ (by omega) (by omega)).trans ((hk3 (w0.heap.size + 1) (by omega) (by omega)).trans s1)
  have k2 := (hk4 _ (by omega) (by omega)).trans ((hk3 (w0.heap.size + 2) (by omega) (by omega)).trans s2)
  refine leaves_cons (f := 176) (args := #[.pointer (some ⟨w0.heap.size, 0, none⟩), .pointer (some ⟨w0.heap.size + 1, 0, none⟩), .pointer (some ⟨w0.heap.size + 2, 0, none⟩)]) (by simp) (by simp [go_sem]) ?_
  refine (catch_panicking w0.heap.size y.1 y.2.1 hy0 _ _ _ _ _ _ [] w4 k0 k1 k2).mono ?_
  rintro e2 u' w5 ⟨rfl, rfl, W, h, hG, g1, g2, g3, rfl⟩
  have m0 := (hG.old _ (by omega)).trans k0
  have m1 := (hG.old _ (by omega)).trans k1
  have m2 := (hG.old _ (by omega)).trans k2
  obtain ⟨c0, c1, c2⟩ := three_cells (u := .slice none 0 0) (v := .int .i64 0) (x := .iface 84 (.pointer (some ⟨h, 0, none⟩))) m0 m1 m2
  have hz := hG.size
  simp [Leaves, settle, results, Tryz.results164, go_sem, c0, c1, c2]
  exact ⟨by omega, (three_sets ⟨by omega, by omega, by omega⟩).trans g2, g3, S4, hps4.upd hG.os hG.tape hG.output (by simpa using hz) fun i hi hn => (three_sets ⟨by omega, by omega, by omega⟩).trans (hG.old i hi)⟩
theorem sl_val {S : Nat → Prop} {w : World} {v : Value} {k : Nat} {xs : List AV} (h : DRep S w v (.sl k xs)) : ∃ p n c, v = .slice p n c := by cases h <;> exact ⟨_, _, _, rfl⟩
/-- What stands behind the parser's call. -/
theorem after_or {w0 w2 w3 w4 : World} {S0 S3 S4 : Nat → Prop} {l3 l4 : List lex_Token} {a3 e3 a4 e4 : Int} {v : Value} {xs : List AV} {v1 v2 v3 : Value} {T1 T2 T3 : TypeId} (s0 : w2.heap[w0.heap.size]? = some (.cells #[v1] T1 (0, 0))) (s1 : w2.heap[w0.heap.size + 1]? = some (.cells #[v2] T2 (0, 0))) (s2 : w2.heap[w0.heap.size + 2]? = some (.cells #[v3] T3 (0, 0))) (s3 : w2.heap.size = w0.heap.size + 4)
    (h3 : PS w0 S0 l3 a3 e3 w3 S3) (k3 : ∀ i, i < w2.heap.size → i ≠ w0.heap.size + 3 → w3.heap[i]? = w2.heap[i]?) (h4 : PS w0 S0 l4 a4 e4 w4 S4) (k4 : ∀ i, i < w3.heap.size → i ≠ w0.heap.size + 3 → w4.heap[i]? = w3.heap[i]?) (hv : DRep S4 w4 v (.sl 8 xs)) :
    w4.cell? ⟨w0.heap.size, 0, none⟩ = some v1 ∧ w4.frozen? ⟨w0.heap.size, 0, none⟩ = false ∧ PS w0 S0 l4 a4 e4 (w4.setCell ⟨w0.heap.size, 0, none⟩ v) S4 ∧ DRep S4 (w4.setCell ⟨w0.heap.size, 0, none⟩ v) v (.sl 8 xs) ∧
      (w4.setCell ⟨w0.heap.size, 0, none⟩ v).cell? ⟨w0.heap.size, 0, none⟩ = some v ∧
      (w4.setCell ⟨w0.heap.size, 0, none⟩ v).heap[w0.heap.size]? = some (.cells #[v] T1 (0, 0)) ∧ (w4.setCell ⟨w0.heap.size, 0, none⟩ v).heap[w0.heap.size + 1]? = some (.cells #[v2] T2 (0, 0)) ∧ (w4.setCell ⟨w0.heap.size, 0, none⟩ v).heap[w0.heap.size + 2]? = some (.cells #[v3] T3 (0, 0)) := by
  have z3 := h3.size
  have z4 := h4.size
  have k0 := (k4 _ (by omega) (by omega)).trans ((k3 w0.heap.size (by omega) (by omega)).trans s0)
  have k1 := (k4 _ (by omega) (by omega)).trans ((k3 (w0.heap.size + 1) (by omega) (by omega)).trans s1)
  have k2 := (k4 _ (by omega) (by omega)).trans ((k3 (w0.heap.size + 2) (by omega) (by omega)).trans s2)
  obtain ⟨c0, f0⟩ := cell_at k0
  have hs : ∀ i, i < w4.heap.size → (i < w0.heap.size ∨ w0.heap.size + 3 ≤ i) → (w4.setCell ⟨w0.heap.size, 0, none⟩ v).heap[i]? = w4.heap[i]? := fun i _ h => heap_setCell_other _ _ _ _ (show i ≠ w0.heap.size by omega)
  have m0 : (w4.setCell ⟨w0.heap.size, 0, none⟩ v).heap[w0.heap.size]? = some (.cells #[v] T1 (0, 0)) := by rw [heap_setCell_same _ _ _ _ _ _ k0]; rfl
  refine ⟨c0, f0, h4.upd rfl rfl rfl (by simp) hs, hv.mono (fun _ h => h) fun g hg => hs g (h4.sits g hg) ?_, (cell_at m0).1, m0, ?_, ?_⟩
  · rcases h4.news g hg with h | h
    · exact .inl (h4.sits0 g h)
    · right; omega
  · rw [heap_setCell_other _ _ _ _ (show w0.heap.size + 1 ≠ w0.heap.size by omega)]; exact k1
  · rw [heap_setCell_other _ _ _ _ (show w0.heap.size + 2 ≠ w0.heap.size by omega)]; exact k2
theorem after_new1 {w W : World} {x y : Int} {a b c : Value} {g : Nat} {ta tb tc : TypeId} (h0 : w.heap[g]? = some (.cells #[a] ta (0, 0))) (h1 : w.heap[g + 1]? = some (.cells #[b] tb (0, 0))) (h2 : w.heap[g + 2]? = some (.cells #[c] tc (0, 0)))
    (hW : W = w.alloc (.cells #[.int .i64 x, .int .i64 y] 87)) :
    Grew w W ∧ W.heap[w.heap.size]? = some (.cells #[.int .i64 x, .int .i64 y] 87 (0, 0)) ∧ w.heap.size < W.heap.size ∧
      (W.cell? ⟨g, 0, none⟩ = some a ∧ W.cell? ⟨g + 1, 0, none⟩ = some b ∧ W.cell? ⟨g + 2, 0, none⟩ = some c ∧ W.frozen? ⟨g, 0, none⟩ = false ∧ W.frozen? ⟨g + 1, 0, none⟩ = false ∧ W.frozen? ⟨g + 2, 0, none⟩ = false) ∧
      W.heap[g]? = some (.cells #[a] ta (0, 0)) ∧ W.heap[g + 1]? = some (.cells #[b] tb (0, 0)) ∧ W.heap[g + 2]? = some (.cells #[c] tc (0, 0)) := by
  subst hW
  have hl : ∀ {i : Nat} {o : Obj}, w.heap[i]? = some o → i < w.heap.size := fun h => (Array.getElem?_eq_some_iff.1 h).1
  have hG := Grew.alloc w (.cells #[.int .i64 x, .int .i64 y] 87)
  have k0 := (hG.old g (hl h0)).trans h0
  have k1 := (hG.old (g + 1) (hl h1)).trans h1
  have k2 := (hG.old (g + 2) (hl h2)).trans h2
  exact ⟨hG, push_new _ _, by simp, ⟨(cell_at k0).1, (cell_at k1).1, (cell_at k2).1, (cell_at k0).2, (cell_at k1).2, (cell_at k2).2⟩, k0, k1, k2⟩
/-- What is read does not stand. -/
theorem parse_fail (N : Nat) {M : Maps} {S0 : Nat → Prop} {w0 : World} {l : List lex_Token} {a e : Int} {ad : Option Addr} {cap : Nat} (hh : RelH M S0 AH.nil w0) (hp : Prot Tryz.prog M AH.nil w0) (hv : DRep S0 w0 (.slice ad l.length cap) (.sl 7 (l.map eA0)))
    (ha : ¬ a < 0) (hb : ¬ a > (l.length : Int)) {x : Int × List lex_Token × Int × Int} (hx : s_predtext_parser_place_v424 N l a e = some x) {y : List pred_Node × List lex_Token × Int × Int} (hy : s_predtext_parser_or_v927 N 0 x.2.1 x.2.2.1 x.2.2.2 = some (.inr y)) {c : Int} (hc : s_pred_Check N y.1 = some c) (hc0 : c ≠ 0) :
    Calls Tryz.prog 164 #[.slice ad l.length cap, .int .i64 a, .int .i64 e] w0 fun en w' => ∃ h S', en = .returned (.tuple #[.slice none 0 0, .int .i64 0, .iface 84 (.pointer (some ⟨h, 0, none⟩))]) ∧ w0.heap.size ≤ h ∧ w'.heap[h]? = some (.cells #[.int .i64 c, .int .i64 x.1] 87 (0, 0)) ∧ h < w'.heap.size ∧ PS w0 S0 y.2.1 y.2.2.1 y.2.2.2 w' S' := by
  have hmf : ∀ (fn : Go.Fn) (first cap : Array Value) (w : World), (Instr.makeFunc fn first cap).run Tryz.prog w = .ok (.func fn first cap) w := fun _ _ _ _ => rfl
  obtain ⟨s0, s1, s2, s3⟩ := start_cells w0 (.slice none 0 0) (.int .i64 0) .nilIface #[.slice ad l.length cap, .int .i64 a, .int .i64 e] 44 3 27 250
  go_enter_defers Tryz.func164, Tryz.ntmps164
  go_wp2_with (first
    | (go_at_call 175; refine (place_at N (ps_start (a := a) (e := e) hh hp hv _ _ _ _) hx).mono ?_; rintro r1 w3 ⟨rfl, S3, hps3, hk3⟩)
    | (go_at_call 177; refine (or_at N hps3 hy).mono ?_; rintro r2 w4 ⟨S4, ⟨v, rfl, hv4, hps4⟩, hk4⟩; obtain ⟨b1, b2, b3, rfl⟩ := sl_val hv4; obtain ⟨c0, f0, hps5, hv5, c05, k50, k51, k52⟩ := after_or s0 s1 s2 s3 hps3 hk3 hps4 hk4 hv4)
    | (go_at_call 110; refine (check_at N hps5 hv5 hc).mono ?_; rintro r3 w6 ⟨rfl, S6, hps6, hk6, hv6⟩)
    | (go_at_call 23; refine (new_some _ _ hc0 _).mono ?_; rintro r4 W ⟨rfl, hW⟩; obtain ⟨hG, hH, hsz, ⟨n0, n1, n2, q0, q1, q2⟩, r0, r1, r2⟩ := after_new1 ((hk6 _ (by have := hps5.size; omega)).trans k50) ((hk6 _ (by have := hps5.size; omega)).trans k51) ((hk6 _ (by have := hps5.size; omega)).trans k52) hW; clear hW))
  refine leaves_cons (f := 176) (args := #[.pointer (some ⟨w0.heap.size, 0, none⟩), .pointer (some ⟨w0.heap.size + 1, 0, none⟩), .pointer (some ⟨w0.heap.size + 2, 0, none⟩)]) (by simp) (by simp [go_sem]) ?_
  refine (catch_idle _ _ _ _).mono ?_
  rintro e2 u' w5 ⟨rfl, rfl, rfl⟩
  obtain ⟨c0, c1, c2⟩ := three_cells (u := .slice none 0 0) (v := .int .i64 0) (x := .iface 84 (.pointer (some ⟨w6.heap.size, 0, none⟩))) r0 r1 r2
  have z6 := hps6.size
  have hz := hG.size
  have kk : ∀ i, i < W.heap.size → ((((W.setCell ⟨w0.heap.size, 0, none⟩ (.slice none 0 0)).setCell ⟨w0.heap.size + 1, 0, none⟩ (.int .i64 0)).setCell ⟨w0.heap.size + 2, 0, none⟩ (.iface 84 (.pointer (some ⟨w6.heap.size, 0, none⟩)))).alloc (.cells #[.int .i64 0, .int .i64 0] 252)).heap[i]? = (((W.setCell ⟨w0.heap.size, 0, none⟩ (.slice none 0 0)).setCell ⟨w0.heap.size + 1, 0, none⟩ (.int .i64 0)).setCell ⟨w0.heap.size + 2, 0, none⟩ (.iface 84 (.pointer (some ⟨w6.heap.size, 0, none⟩)))).heap[i]? := fun i hi => push_old _ _ i (by simpa using hi)
  have c0' := c0
  rw [← cell_of_same (kk w0.heap.size (by omega))] at c0
  rw [← cell_of_same (kk (w0.heap.size + 1) (by omega))] at c1
  rw [← cell_of_same (kk (w0.heap.size + 2) (by omega))] at c2
  simp [Leaves, settle, results, Tryz.results164, go_sem, c0, c1, c2]
  exact ⟨by omega, (kk _ (by omega)).trans ((three_sets ⟨by omega, by omega, by omega⟩).trans hH), by omega, S6, hps6.upd hG.os hG.tape hG.output (by simp; omega) fun i hi hn => (kk i (by omega)).trans ((three_sets ⟨by omega, by omega, by omega⟩).trans (hG.old i hi))⟩
/-- What stands behind the check. -/
theorem after_check {w0 w5 w6 : World} {S0 S5 S6 : Nat → Prop} {l5 l6 : List lex_Token} {a5 e5 a6 e6 : Int} {v v2 v3 : Value} {T1 T2 T3 : TypeId} (h5 : PS w0 S0 l5 a5 e5 w5 S5) (h6 : PS w0 S0 l6 a6 e6 w6 S6) (k6 : ∀ i, i < w5.heap.size → w6.heap[i]? = w5.heap[i]?)
    (k50 : w5.heap[w0.heap.size]? = some (.cells #[v] T1 (0, 0))) (k51 : w5.heap[w0.heap.size + 1]? = some (.cells #[v2] T2 (0, 0))) (k52 : w5.heap[w0.heap.size + 2]? = some (.cells #[v3] T3 (0, 0))) :
    (w6.cell? ⟨w0.heap.size, 0, none⟩ = some v ∧ w6.cell? ⟨w0.heap.size + 1, 0, none⟩ = some v2 ∧ w6.cell? ⟨w0.heap.size + 2, 0, none⟩ = some v3 ∧ w6.frozen? ⟨w0.heap.size, 0, none⟩ = false ∧ w6.frozen? ⟨w0.heap.size + 1, 0, none⟩ = false ∧ w6.frozen? ⟨w0.heap.size + 2, 0, none⟩ = false) ∧
      w6.cell? ⟨w0.heap.size + 3, 1, none⟩ = some (.int .i64 a6) ∧ w6.heap[w0.heap.size]? = some (.cells #[v] T1 (0, 0)) ∧ w6.heap[w0.heap.size + 1]? = some (.cells #[v2] T2 (0, 0)) ∧ w6.heap[w0.heap.size + 2]? = some (.cells #[v3] T3 (0, 0)) := by
  have z5 := h5.size
  have m0 := (k6 _ (by omega)).trans k50
  have m1 := (k6 _ (by omega)).trans k51
  have m2 := (k6 _ (by omega)).trans k52
  obtain ⟨vl, T, hb, _⟩ := h6.box
  exact ⟨⟨(cell_at m0).1, (cell_at m1).1, (cell_at m2).1, (cell_at m0).2, (cell_at m1).2, (cell_at m2).2⟩, by simp [World.cell?, hb], m0, m1, m2⟩
theorem keep_same {w : World} {p : Addr} {u v : Value} (h : w.cell? p = some u) : (w.setCell p v).drew.cell? p = some v := by
  have : (w.setCell p v).cell? p = some v := by simp [World.cell?_setCell_same, h]
  exact this
theorem keep_other {w : World} {p q : Addr} {u v : Value} (hn : q ≠ p) (h : w.drew.cell? p = some v) : (w.setCell q u).drew.cell? p = some v := by
  have : (w.setCell q u).cell? p = w.cell? p := World.cell?_setCell_other w q p u hn
  exact this.trans h
/-- What is read stands. -/
theorem parse_ok (N : Nat) {M : Maps} {S0 : Nat → Prop} {w0 : World} {l : List lex_Token} {a e : Int} {ad : Option Addr} {cap : Nat} (hh : RelH M S0 AH.nil w0) (hp : Prot Tryz.prog M AH.nil w0) (hv : DRep S0 w0 (.slice ad l.length cap) (.sl 7 (l.map eA0)))
    (ha : ¬ a < 0) (hb : ¬ a > (l.length : Int)) {x : Int × List lex_Token × Int × Int} (hx : s_predtext_parser_place_v424 N l a e = some x) {y : List pred_Node × List lex_Token × Int × Int} (hy : s_predtext_parser_or_v927 N 0 x.2.1 x.2.2.1 x.2.2.2 = some (.inr y)) (hc : s_pred_Check N y.1 = some 0) :
    Calls Tryz.prog 164 #[.slice ad l.length cap, .int .i64 a, .int .i64 e] w0 fun en w' => ∃ v S', en = .returned (.tuple #[v, .int .i64 y.2.2.1, .nilIface]) ∧ DRep S' w' v (.sl 8 (y.1.map eA3)) ∧ PS w0 S0 y.2.1 y.2.2.1 y.2.2.2 w' S' := by
  have hmf : ∀ (fn : Go.Fn) (first cap : Array Value) (w : World), (Instr.makeFunc fn first cap).run Tryz.prog w = .ok (.func fn first cap) w := fun _ _ _ _ => rfl
  obtain ⟨s0, s1, s2, s3⟩ := start_cells w0 (.slice none 0 0) (.int .i64 0) .nilIface #[.slice ad l.length cap, .int .i64 a, .int .i64 e] 44 3 27 250
  go_enter_defers Tryz.func164, Tryz.ntmps164
  go_wp2_with (first
    | (go_at_call 175; refine (place_at N (ps_start (a := a) (e := e) hh hp hv _ _ _ _) hx).mono ?_; rintro r1 w3 ⟨rfl, S3, hps3, hk3⟩)
    | (go_at_call 177; refine (or_at N hps3 hy).mono ?_; rintro r2 w4 ⟨S4, ⟨v, rfl, hv4, hps4⟩, hk4⟩; obtain ⟨b1, b2, b3, rfl⟩ := sl_val hv4; obtain ⟨c0, f0, hps5, hv5, c05, k50, k51, k52⟩ := after_or s0 s1 s2 s3 hps3 hk3 hps4 hk4 hv4)
    | (go_at_call 110; refine (check_at N hps5 hv5 hc).mono ?_; rintro r3 w6 ⟨rfl, S6, hps6, hk6, hv6⟩; obtain ⟨⟨n0, n1, n2, q0, q1, q2⟩, nb, r0, r1, r2⟩ := after_check hps5 hps6 hk6 k50 k51 k52))
  go_region_held3 (fun w' => w'.cell? ⟨w0.heap.size, 0, none⟩ = some (.slice b1 b2 b3) ∧ w'.cell? ⟨w0.heap.size + 3, 1, none⟩ = some (.int .i64 y.2.2.1)) (first | exact ⟨keep_same n0, keep_other (by simp) nb⟩ | exact ⟨keep_other (by simp) (keep_same n0), keep_other (by simp) (keep_other (by simp) nb)⟩ | exact ⟨keep_other (by simp) (keep_other (by simp) (keep_same n0)), keep_other (by simp) (keep_other (by simp) (keep_other (by simp) nb))⟩ | go_keep) (fail)
  all_goals go_wp2
  refine leaves_cons (f := 176) (args := #[.pointer (some ⟨w0.heap.size, 0, none⟩), .pointer (some ⟨w0.heap.size + 1, 0, none⟩), .pointer (some ⟨w0.heap.size + 2, 0, none⟩)]) (by simp) (by simp [go_sem]) ?_
  refine (catch_idle _ _ _ _).mono ?_
  rintro e2 u' w7 ⟨rfl, rfl, rfl⟩
  obtain ⟨c0, c1, c2⟩ := three_cells (u := .slice b1 b2 b3) (v := .int .i64 y.2.2.1) (x := .nilIface) r0 r1 r2
  have z6 := hps6.size
  have kk : ∀ i, i < w6.heap.size → ((((w6.setCell ⟨w0.heap.size, 0, none⟩ (.slice b1 b2 b3)).setCell ⟨w0.heap.size + 1, 0, none⟩ (.int .i64 y.2.2.1)).setCell ⟨w0.heap.size + 2, 0, none⟩ .nilIface).drew.alloc (.cells #[.int .i64 0, .int .i64 0] 252)).heap[i]? = (((w6.setCell ⟨w0.heap.size, 0, none⟩ (.slice b1 b2 b3)).setCell ⟨w0.heap.size + 1, 0, none⟩ (.int .i64 y.2.2.1)).setCell ⟨w0.heap.size + 2, 0, none⟩ .nilIface).heap[i]? := fun i hi => push_old _ _ i (by simpa using hi)
  have hd : DRep S6 _ (.slice b1 b2 b3) (.sl 8 (y.1.map eA3)) := hv6
  have hall : ∀ i, i < w6.heap.size → (i < w0.heap.size ∨ w0.heap.size + 3 ≤ i) → ((((w6.setCell ⟨w0.heap.size, 0, none⟩ (.slice b1 b2 b3)).setCell ⟨w0.heap.size + 1, 0, none⟩ (.int .i64 y.2.2.1)).setCell ⟨w0.heap.size + 2, 0, none⟩ .nilIface).drew.alloc (.cells #[.int .i64 0, .int .i64 0] 252)).heap[i]? = w6.heap[i]? := fun i hi hn => (kk i hi).trans (three_sets ⟨by omega, by omega, by omega⟩)
  have hps7 := hps6.upd (w' := (((w6.setCell ⟨w0.heap.size, 0, none⟩ (.slice b1 b2 b3)).setCell ⟨w0.heap.size + 1, 0, none⟩ (.int .i64 y.2.2.1)).setCell ⟨w0.heap.size + 2, 0, none⟩ .nilIface).drew.alloc (.cells #[.int .i64 0, .int .i64 0] 252)) rfl rfl rfl (by simp) hall
  have hd7 := hv6.mono (fun _ h => h) fun g hg => hall g (hps6.sits g hg) (by
    rcases hps6.news g hg with h | h
    · exact .inl (hps6.sits0 g h)
    · right; omega)
  rw [← cell_of_same (kk w0.heap.size (by omega))] at c0
  rw [← cell_of_same (kk (w0.heap.size + 1) (by omega))] at c1
  rw [← cell_of_same (kk (w0.heap.size + 2) (by omega))] at c2
  generalize (((w6.setCell ⟨w0.heap.size, 0, none⟩ (.slice b1 b2 b3)).setCell ⟨w0.heap.size + 1, 0, none⟩ (.int .i64 y.2.2.1)).setCell ⟨w0.heap.size + 2, 0, none⟩ .nilIface).drew.alloc (.cells #[.int .i64 0, .int .i64 0] 252) = V at *
  simp [Leaves, settle, results, Tryz.results164, go_sem, c0, c1, c2]
  exact ⟨S6, hd7, hps7⟩
theorem after_start3 {w0 W : World} (hW : W = (((w0.alloc (.cells #[.slice none 0 0] 44)).alloc (.cells #[.int .i64 0] 3)).alloc (.cells #[.nilIface] 27)).alloc (.cells #[.int .i64 2, .int .i64 0] 87)) :
    Grew w0 W ∧ W.heap[w0.heap.size + 3]? = some (.cells #[.int .i64 2, .int .i64 0] 87 (0, 0)) ∧ W.heap.size = w0.heap.size + 4 ∧
      (W.cell? ⟨w0.heap.size, 0, none⟩ = some (.slice none 0 0) ∧ W.cell? ⟨w0.heap.size + 1, 0, none⟩ = some (.int .i64 0) ∧ W.cell? ⟨w0.heap.size + 2, 0, none⟩ = some .nilIface ∧ W.frozen? ⟨w0.heap.size, 0, none⟩ = false ∧ W.frozen? ⟨w0.heap.size + 1, 0, none⟩ = false ∧ W.frozen? ⟨w0.heap.size + 2, 0, none⟩ = false) ∧
      W.heap[w0.heap.size]? = some (.cells #[.slice none 0 0] 44 (0, 0)) ∧ W.heap[w0.heap.size + 1]? = some (.cells #[.int .i64 0] 3 (0, 0)) ∧ W.heap[w0.heap.size + 2]? = some (.cells #[.nilIface] 27 (0, 0)) := by
  subst hW
  obtain ⟨s0, s1, s2, s3⟩ := start_cells w0 (.slice none 0 0) (.int .i64 0) .nilIface #[.int .i64 2, .int .i64 0] 44 3 27 87
  refine ⟨⟨rfl, rfl, rfl, by simp; omega, fun g hg => (push_old _ _ g (by simp; omega)).trans ((push_old _ _ g (by simp; omega)).trans ((push_old _ _ g (by simp; omega)).trans (push_old _ _ g hg)))⟩, ?_, s3, ⟨(cell_at s0).1, (cell_at s1).1, (cell_at s2).1, (cell_at s0).2, (cell_at s1).2, (cell_at s2).2⟩, s0, s1, s2⟩
  rw [show w0.heap.size + 3 = (((w0.alloc (.cells #[.slice none 0 0] 44)).alloc (.cells #[.int .i64 0] 3)).alloc (.cells #[.nilIface] 27)).heap.size by simp]
  exact push_new _ _
/-- A place that is none. -/
theorem parse_bad {w0 : World} {n : Nat} {a e : Int} {ad : Option Addr} {cap : Nat} (hb : a < 0 ∨ (¬ a < 0 ∧ a > (n : Int))) :
    Calls Tryz.prog 164 #[.slice ad n cap, .int .i64 a, .int .i64 e] w0 fun en w' => en = .returned (.tuple #[.slice none 0 0, .int .i64 0, .iface 84 (.pointer (some ⟨w0.heap.size + 3, 0, none⟩))]) ∧ w'.heap[w0.heap.size + 3]? = some (.cells #[.int .i64 2, .int .i64 0] 87 (0, 0)) ∧ w0.heap.size + 3 < w'.heap.size ∧ Grew w0 w' := by
  rcases hb with ha | ⟨ha, hb⟩
  all_goals
    go_enter_defers Tryz.func164, Tryz.ntmps164
    go_wp2_with (go_at_call 23; refine (new_some 2 0 (by decide) _).mono ?_; rintro r4 W ⟨rfl, hW⟩; obtain ⟨hG, hH, hsz, ⟨n0, n1, n2, q0, q1, q2⟩, r0, r1, r2⟩ := after_start3 hW; clear hW)
    obtain ⟨c0, c1, c2⟩ := three_cells (u := .slice none 0 0) (v := .int .i64 0) (x := .iface 84 (.pointer (some ⟨w0.heap.size + 3, 0, none⟩))) r0 r1 r2
    have kk : ∀ i, i ≠ w0.heap.size ∧ i ≠ w0.heap.size + 1 ∧ i ≠ w0.heap.size + 2 → _ := fun i hi => three_sets (W := W) (u := .slice none 0 0) (v := .int .i64 0) (x := .iface 84 (.pointer (some ⟨w0.heap.size + 3, 0, none⟩))) hi
    simp [bodyPostD, Leaves, settle, results, Tryz.results164, go_sem, c0, c1, c2]
    exact ⟨(kk _ (by omega)).trans hH, by omega, hG.os, hG.tape, hG.output, by simp; omega, fun i hi => (kk i (by omega)).trans (hG.old i hi)⟩
theorem fin_all {M : Maps} {S S' : Nat → Prop} {w w' : World} (hh : RelH M S AH.nil w) (ho : w'.os = w.os) (ht : w'.tape = w.tape) (hu : w'.output = w.output) (old : ∀ i, i < w.heap.size → w'.heap[i]? = w.heap[i]?) (hz : w.heap.size ≤ w'.heap.size) (sub : ∀ i, S i → S' i) (news : ∀ i, S' i → S i ∨ w.heap.size ≤ i) (sits : ∀ i, S' i → i < w'.heap.size) :
    RelH M S' AH.nil w' ∧ Frm M S AH.nil w M S' AH.nil w' :=
  ⟨⟨hh.nb, hh.nt, sits, (fun b hb => by cases hb), (fun t ht => by cases ht), (fun b b' hb => by cases hb), (fun t t' g h => by cases h.1), (fun b t g hb => by cases hb)⟩,
   ⟨hh.nb, hh.nt, ho, ht, hu, hz, sub, fun g hg => old g (hh.sits g hg), fun g hg _ => old g hg, .refl M, fun g hg => (news g hg).imp_right .inr, (fun g hf => by
    rcases hf with ⟨b, hb, _⟩ | ⟨t, ht, _⟩
    · cases hb
    · cases ht)⟩⟩
theorem psl_len {S : Nat → Prop} {w : World} {v : Value} {k : Nat} {xs : List AV} (h : DRep S w v (.sl k xs)) : ∃ ad cap, v = .slice ad xs.length cap := by cases h <;> exact ⟨_, _, rfl⟩
def errAV (x p : Int) : AV := .tup [.sl 8 [], .v (.int .i64 0), .ifc 84 (.dptr [.v (.int .i64 x), .v (.int .i64 p)])]
theorem fin_err {M : Maps} {S S' : Nat → Prop} {w w' : World} {x p : Int} {h : Nat} (hh : RelH M S AH.nil w) (ho : w'.os = w.os) (ht : w'.tape = w.tape) (hu : w'.output = w.output) (old : ∀ i, i < w.heap.size → w'.heap[i]? = w.heap[i]?) (hz : w.heap.size ≤ w'.heap.size) (sub : ∀ i, S i → S' i) (news : ∀ i, S' i → S i ∨ w.heap.size ≤ i) (sits : ∀ i, S' i → i < w'.heap.size)
    (h1 : w.heap.size ≤ h) (h2 : w'.heap[h]? = some (.cells #[.int .i64 x, .int .i64 p] 87 (0, 0))) (h3 : h < w'.heap.size) :
    ∃ M' S', EndRep M' S' w' (.returned (.tuple #[.slice none 0 0, .int .i64 0, .iface 84 (.pointer (some ⟨h, 0, none⟩))])) (.ret (errAV x p)) ∧ RelH M' S' AH.nil w' ∧ Frm M S AH.nil w M' S' AH.nil w' := by
  obtain ⟨q1, q2⟩ := fin_all (S' := fun i => S' i ∨ i = h) hh ho ht hu old hz (fun i hi => .inl (sub i hi)) (fun i hi => hi.elim (news i) fun e => .inr (e ▸ h1)) (fun i hi => hi.elim (sits i) fun e => e ▸ h3)
  refine ⟨M, _, .data (.tup _ _ rfl fun i hi => ?_), q1, q2⟩
  match i, hi with
  | 0, _ => exact .sl0 none 0 8
  | 1, _ => exact .v _
  | 2, _ =>
    refine .ifc _ _ _ (.dptr h 0 _ _ _ (0, 0) (.inr rfl) h2 (Nat.le_refl 2) (fun j hj => ?_) fun j hj => ?_)
    · match j, hj with
      | 0, _ => rfl
      | 1, _ => rfl
    · match j, hj with
      | 0, _ => exact .v _
      | 1, _ => exact .v _
theorem c_predtext_Parse (N : Nat) : C_predtext_Parse.Ok prog N := by
  refine ⟨⟨Tryz.f164, Tryz.func164, by kernel_rfl, by kernel_rfl⟩, fun a r h => ?_⟩
  obtain ⟨l, a, e, ⟨⟩⟩ := a
  have h : s_predtext_Parse N l a e = some r := h
  intro M S w vs hh hp hsz hrep
  obtain ⟨v, u, t, rfl⟩ : ∃ v u t, vs = #[v, u, t] := by
    match vs, hsz with
    | ⟨[v, u, t]⟩, _ => exact ⟨v, u, t, rfl⟩
  have e0 : DRep S w v (.sl 7 (l.map eA0)) := drep_sl (hrep 0 (by decide : 0 < 3))
  have e1 : u = .int .i64 a := VRep.v_eq (hrep 1 (by decide : 1 < 3))
  have e2 : t = .int .i64 e := VRep.v_eq (hrep 2 (by decide : 2 < 3))
  subst e1; subst e2
  obtain ⟨ad, cap, hvv⟩ := psl_len e0
  rw [List.length_map] at hvv
  subst hvv
  have bad : (a < 0 ∨ (¬ a < 0 ∧ a > (l.length : Int))) → r = .inr ([], 0, 2, 0) → Calls prog 164 #[.slice ad l.length cap, .int .i64 a, .int .i64 e] w fun en w' => ∃ M' S', EndRep M' S' w' en (.ret (errAV 2 0)) ∧ RelH M' S' AH.nil w' ∧ Frm M S AH.nil w M' S' AH.nil w' := fun hb _ => by
    refine (parse_bad hb).mono ?_
    rintro en w' ⟨rfl, h2, h3, hG⟩
    exact fin_err hh hG.os hG.tape hG.output hG.old hG.size (fun _ h => h) (fun _ h => .inl h) (fun i hi => Nat.lt_of_lt_of_le (hh.sits i hi) hG.size) (by omega) h2 h3
  unfold s_predtext_Parse at h
  by_cases ha : a < 0
  · rw [show ltB a 0 = true from ltB_iff.2 ha, cond_true] at h
    cases h
    exact bad (.inl ha) rfl
  rw [show ltB a 0 = false by rw [Bool.eq_false_iff]; exact fun h => ha (ltB_iff.1 h), cond_false] at h
  by_cases hb : a > (l.length : Int)
  · rw [show ltB (l.length : Int) a = true from ltB_iff.2 hb, cond_true] at h
    cases h
    exact bad (.inr ⟨ha, hb⟩) rfl
  rw [show ltB (l.length : Int) a = false by rw [Bool.eq_false_iff]; exact fun h => hb (ltB_iff.1 h), cond_false] at h
  obtain ⟨x, hx, h⟩ := Option.bind_eq_some_iff.1 h
  obtain ⟨y, hy, h⟩ := Option.bind_eq_some_iff.1 h
  cases y with
  | inl y =>
    simp only [Sum.elim_inl] at h
    obtain ⟨hy0, h⟩ := gd_some h
    cases h
    refine (parse_panic N hh hp e0 ha hb hx hy (by simpa using hy0)).mono ?_
    rintro en w' ⟨h, S', rfl, h1, h2, h3, ps⟩
    exact fin_err hh ps.os ps.tape ps.output ps.old (by have := ps.size; omega) ps.sub (fun i hi => (ps.news i hi).imp_right fun h => by omega) ps.sits h1 h2 h3
  | inr y =>
    simp only [Sum.elim_inr] at h
    obtain ⟨c, hc, h⟩ := Option.bind_eq_some_iff.1 h
    by_cases hc0 : c = 0
    · subst hc0
      rw [show ((0 : Int) != 0) = false from rfl, cond_false] at h
      cases h
      refine (parse_ok N hh hp e0 ha hb hx hy hc).mono ?_
      rintro en w' ⟨v, S', rfl, hd, ps⟩
      obtain ⟨q1, q2⟩ := fin_all hh ps.os ps.tape ps.output ps.old (by have := ps.size; omega) ps.sub (fun i hi => (ps.news i hi).imp_right fun h => by omega) ps.sits
      refine ⟨M, S', .data (.tup _ _ rfl fun i hi => ?_), q1, q2⟩
      match i, hi with
      | 0, _ => exact hd
      | 1, _ => exact .v _
      | 2, _ => exact .v _
    · rw [show (c != 0) = true by simpa using hc0, cond_true] at h
      cases h
      refine (parse_fail N hh hp e0 ha hb hx hy hc hc0).mono ?_
      rintro en w' ⟨h, S', rfl, h1, h2, h3, ps⟩
      exact fin_err hh ps.os ps.tape ps.output ps.old (by have := ps.size; omega) ps.sub (fun i hi => (ps.news i hi).imp_right fun h => by omega) ps.sits h1 h2 h3
end Go.Proofs.YtahklhniofiofaaGreatDoor.D
namespace Go.Proofs.YtahklhniofiofaaGreatDoor.D
open Go
open Go.Proofs.Tryz
set_option maxRecDepth 1000000
set_option linter.unusedSimpArgs false
set_option linter.unusedVariables false
noncomputable section
noncomputable def F_grammar_reader_atom_v128 : Fn C_grammar_reader_atom_v128 := ⟨f150, [], ⟨[(48, 5)], [], sbf, bof⟩, [C_grammar_reader_name_v424, C_grammar_reader_must_v368, C_grammar_reader_eat_v368, C_predtext_Parse, C_grammar_stop_n, C_grammar_stop_f], [true], none, 1, 0, fun _ _ => true, none⟩
theorem o_grammar_reader_atom_v128 : F_grammar_reader_atom_v128.Ok prog := ⟨Is.of (by kernel_rfl) (by kernel_rfl), by kernel_rfl, hint_sb sb_ok bo_ok, trivial, trivial, fun _ => by kernel_rfl⟩
theorem c_grammar_reader_atom_v128 (N : Nat) : C_grammar_reader_atom_v128.Ok prog N := o_grammar_reader_atom_v128.give tb_ok hm N N ⟨c_grammar_reader_name_v424 N, c_grammar_reader_must_v368 N, c_grammar_reader_eat_v368 N, c_predtext_Parse N, c_grammar_stop_n N, c_grammar_stop_f N, trivial⟩ fun a r s h => by
  exact s.main [] trivial (.trans (by kernel_rfl) h)
noncomputable def F_grammar_reader_number_v424 : Fn C_grammar_reader_number_v424 := ⟨f55, [], ⟨[], [], sbf, bof⟩, [C_grammar_reader_fail_v927], [true], none, 1, 0, fun _ _ => true, none⟩
theorem o_grammar_reader_number_v424 : F_grammar_reader_number_v424.Ok prog := ⟨Is.of (by kernel_rfl) (by kernel_rfl), by kernel_rfl, hint_sb sb_ok bo_ok, trivial, trivial, fun _ => by kernel_rfl⟩
theorem c_grammar_reader_number_v424 (N : Nat) : C_grammar_reader_number_v424.Ok prog N := o_grammar_reader_number_v424.give tb_ok hm N N ⟨c_grammar_reader_fail_v927 N, trivial⟩ fun a r s h => by
  exact s.main [] trivial (.trans (by kernel_rfl) h)
noncomputable def F_grammar_reader_counted_v424 : Fn C_grammar_reader_counted_v424 := ⟨f165, [], ⟨[], [], sbf, bof⟩, [C_grammar_reader_number_v424, C_grammar_reader_eat_v368, C_grammar_reader_peek_v368, C_grammar_reader_must_v368], [true, true], none, 1, 0, fun _ _ => true, none⟩
theorem o_grammar_reader_counted_v424 : F_grammar_reader_counted_v424.Ok prog := ⟨Is.of (by kernel_rfl) (by kernel_rfl), by kernel_rfl, hint_sb sb_ok bo_ok, trivial, trivial, fun _ => by kernel_rfl⟩
theorem c_grammar_reader_counted_v424 (N : Nat) : C_grammar_reader_counted_v424.Ok prog N := o_grammar_reader_counted_v424.give tb_ok hm N N ⟨c_grammar_reader_number_v424 N, c_grammar_reader_eat_v368 N, c_grammar_reader_peek_v368 N, c_grammar_reader_must_v368 N, trivial⟩ fun a r s h => by
  exact s.main [] trivial (.trans (by kernel_rfl) h)
noncomputable def F_grammar_reader_often_v615 : Fn C_grammar_reader_often_v615 := ⟨f151, [], ⟨[(30, 5)], [], sbf, bof⟩, [C_grammar_reader_eat_v368, C_grammar_reader_counted_v424], [true], none, 1, 0, fun _ _ => true, none⟩
theorem o_grammar_reader_often_v615 : F_grammar_reader_often_v615.Ok prog := ⟨Is.of (by kernel_rfl) (by kernel_rfl), by kernel_rfl, hint_sb sb_ok bo_ok, trivial, trivial, fun _ => by kernel_rfl⟩
theorem c_grammar_reader_often_v615 (N : Nat) : C_grammar_reader_often_v615.Ok prog N := o_grammar_reader_often_v615.give tb_ok hm N N ⟨c_grammar_reader_eat_v368 N, c_grammar_reader_counted_v424 N, trivial⟩ fun a r s h => by
  exact s.main [] trivial (.trans (by kernel_rfl) h)
noncomputable def F_grammar_reader_list_L1_v824 : Fn C_grammar_reader_list_L1_v824 := ⟨f128, [], ⟨[], [], sbf, bof⟩, [], [], none, 2, 1, fun _ _ => true, none⟩
theorem o_grammar_reader_list_L1_v824 : F_grammar_reader_list_L1_v824.Ok prog := ⟨Is.of (by kernel_rfl) (by kernel_rfl), by kernel_rfl, hint_sb sb_ok bo_ok, trivial, trivial, fun _ => by kernel_rfl⟩
theorem c_grammar_reader_list_L1_v824 (N : Nat) : C_grammar_reader_list_L1_v824.Ok prog N := o_grammar_reader_list_L1_v824.give tb_ok hm N N trivial fun a r s h => by
  exact s.main [] trivial (.trans (by kernel_rfl) h)
noncomputable def F_grammar_reader_body_v927 : Fn C_grammar_reader_body_v927 := ⟨f53, [], ⟨[], [], sbf, bof⟩, [C_grammar_reader_list_v946], [true], none, 1, 0, fun _ _ => true, none⟩
theorem o_grammar_reader_body_v927 : F_grammar_reader_body_v927.Ok prog := ⟨Is.of (by kernel_rfl) (by kernel_rfl), by kernel_rfl, hint_sb sb_ok bo_ok, trivial, trivial, fun _ => by kernel_rfl⟩
noncomputable def F_grammar_reader_list_v946 : Fn C_grammar_reader_list_v946 := ⟨f95, [], ⟨[(24, 5)], [], sbf, bof⟩, [C_grammar_reader_branch_v927, C_grammar_reader_peek_v368, C_grammar_reader_list_L1_v824, C_grammar_reader_eat_v368], [true], none, 1, 0, fun _ _ => true, none⟩
theorem o_grammar_reader_list_v946 : F_grammar_reader_list_v946.Ok prog := ⟨Is.of (by kernel_rfl) (by kernel_rfl), by kernel_rfl, hint_sb sb_ok bo_ok, trivial, trivial, fun _ => by kernel_rfl⟩
noncomputable def F_grammar_reader_branch_v927 : Fn C_grammar_reader_branch_v927 := ⟨f96, [], ⟨[], [], sbf, bof⟩, [C_grammar_reader_list_v624], [true], none, 1, 0, fun _ _ => true, none⟩
theorem o_grammar_reader_branch_v927 : F_grammar_reader_branch_v927.Ok prog := ⟨Is.of (by kernel_rfl) (by kernel_rfl), by kernel_rfl, hint_sb sb_ok bo_ok, trivial, trivial, fun _ => by kernel_rfl⟩
noncomputable def F_grammar_reader_list_v624 : Fn C_grammar_reader_list_v624 := ⟨f95, [], ⟨[(24, 5)], [], sbf, bof⟩, [C_grammar_reader_item_v927, C_grammar_reader_peek_v368, C_grammar_reader_list_L1_v824, C_grammar_reader_eat_v368], [true], none, 1, 0, fun _ _ => true, none⟩
theorem o_grammar_reader_list_v624 : F_grammar_reader_list_v624.Ok prog := ⟨Is.of (by kernel_rfl) (by kernel_rfl), by kernel_rfl, hint_sb sb_ok bo_ok, trivial, trivial, fun _ => by kernel_rfl⟩
noncomputable def F_grammar_reader_item_v927 : Fn C_grammar_reader_item_v927 := ⟨f129, [], ⟨[], [], sbf, bof⟩, [C_grammar_reader_eat_v368, C_grammar_reader_atom_v128, C_grammar_reader_peek_v368, C_grammar_reader_often_v615, C_grammar_reader_fail_v927, C_grammar_reader_body_v927, C_grammar_reader_must_v368], [true], none, 1, 0, fun _ _ => true, none⟩
theorem o_grammar_reader_item_v927 : F_grammar_reader_item_v927.Ok prog := ⟨Is.of (by kernel_rfl) (by kernel_rfl), by kernel_rfl, hint_sb sb_ok bo_ok, trivial, trivial, fun _ => by kernel_rfl⟩
theorem cs_grammar_reader_body_v927 : ∀ N, C_grammar_reader_body_v927.Ok prog N ∧ C_grammar_reader_list_v946.Ok prog N ∧ C_grammar_reader_branch_v927.Ok prog N ∧ C_grammar_reader_list_v624.Ok prog N ∧ C_grammar_reader_item_v927.Ok prog N
  | 0 => ⟨⟨o_grammar_reader_body_v927.is.enters, fun a r h => by (have h : none = some r := h; cases h)⟩, ⟨o_grammar_reader_list_v946.is.enters, fun a r h => by (have h : none = some r := h; cases h)⟩, ⟨o_grammar_reader_branch_v927.is.enters, fun a r h => by (have h : none = some r := h; cases h)⟩, ⟨o_grammar_reader_list_v624.is.enters, fun a r h => by (have h : none = some r := h; cases h)⟩, ⟨o_grammar_reader_item_v927.is.enters, fun a r h => by (have h : none = some r := h; cases h)⟩⟩
  | N + 1 => by
    obtain ⟨h_grammar_reader_body_v927, h_grammar_reader_list_v946, h_grammar_reader_branch_v927, h_grammar_reader_list_v624, h_grammar_reader_item_v927⟩ := cs_grammar_reader_body_v927 N
    refine ⟨?_, ?_, ?_, ?_, ?_⟩
    · exact o_grammar_reader_body_v927.give tb_ok hm N (N + 1) ⟨h_grammar_reader_list_v946, trivial⟩ fun a r s h => by
        exact s.main [] trivial (.trans (by kernel_rfl) h)
    · exact o_grammar_reader_list_v946.give tb_ok hm N (N + 1) ⟨h_grammar_reader_branch_v927, c_grammar_reader_peek_v368 N, c_grammar_reader_list_L1_v824 N, c_grammar_reader_eat_v368 N, trivial⟩ fun a r s h => by
        have l0 := s.loop 0 q_grammar_reader_list_v946_0 (f_grammar_reader_list_v946_0 N) N fun next0 h0 => by
          exact fun c v => s.seg 0 q_grammar_reader_list_v946_0 [(0, .of q_grammar_reader_list_v946_0 next0)] ⟨h0, trivial⟩ (by kernel_rfl) (by kernel_rfl)
        exact s.main [(0, .of q_grammar_reader_list_v946_0 (r_grammar_reader_list_v946_0 N))] ⟨l0, trivial⟩ (.trans (by kernel_rfl) h)
    · exact o_grammar_reader_branch_v927.give tb_ok hm N (N + 1) ⟨h_grammar_reader_list_v624, trivial⟩ fun a r s h => by
        exact s.main [] trivial (.trans (by kernel_rfl) h)
    · exact o_grammar_reader_list_v624.give tb_ok hm N (N + 1) ⟨h_grammar_reader_item_v927, c_grammar_reader_peek_v368 N, c_grammar_reader_list_L1_v824 N, c_grammar_reader_eat_v368 N, trivial⟩ fun a r s h => by
        have l0 := s.loop 0 q_grammar_reader_list_v624_0 (f_grammar_reader_list_v624_0 N) N fun next0 h0 => by
          exact fun c v => s.seg 0 q_grammar_reader_list_v624_0 [(0, .of q_grammar_reader_list_v624_0 next0)] ⟨h0, trivial⟩ (by kernel_rfl) (by kernel_rfl)
        exact s.main [(0, .of q_grammar_reader_list_v624_0 (r_grammar_reader_list_v624_0 N))] ⟨l0, trivial⟩ (.trans (by kernel_rfl) h)
    · exact o_grammar_reader_item_v927.give tb_ok hm N (N + 1) ⟨c_grammar_reader_eat_v368 N, c_grammar_reader_atom_v128 N, c_grammar_reader_peek_v368 N, c_grammar_reader_often_v615 N, c_grammar_reader_fail_v927 N, h_grammar_reader_body_v927, c_grammar_reader_must_v368 N, trivial⟩ fun a r s h => by
        exact s.main [] trivial (.trans (by kernel_rfl) h)
theorem c_grammar_reader_body_v927 (N : Nat) : C_grammar_reader_body_v927.Ok prog N := (cs_grammar_reader_body_v927 N).1
noncomputable def F_shape_Word : Fn C_shape_Word := ⟨f46, [], ⟨[], [], sbf, bof⟩, [], [true], none, 0, 0, fun _ _ => true, none⟩
theorem o_shape_Word : F_shape_Word.Ok prog := ⟨Is.of (by kernel_rfl) (by kernel_rfl), by kernel_rfl, hint_sb sb_ok bo_ok, trivial, trivial, fun _ => by kernel_rfl⟩
theorem c_shape_Word (N : Nat) : C_shape_Word.Ok prog N := o_shape_Word.give tb_ok hm N N trivial fun a r s h => by
  exact s.main [] trivial (.trans (by kernel_rfl) h)
noncomputable def F_grammar_reader_mode_v424 : Fn C_grammar_reader_mode_v424 := ⟨f58, [], ⟨[], [], sbf, bof⟩, [C_shape_Word, C_grammar_reader_eat_v368, C_grammar_reader_fail_v927], [true], none, 1, 0, fun _ _ => true, none⟩
theorem o_grammar_reader_mode_v424 : F_grammar_reader_mode_v424.Ok prog := ⟨Is.of (by kernel_rfl) (by kernel_rfl), by kernel_rfl, hint_sb sb_ok bo_ok, trivial, trivial, fun _ => by kernel_rfl⟩
theorem c_grammar_reader_mode_v424 (N : Nat) : C_grammar_reader_mode_v424.Ok prog N := o_grammar_reader_mode_v424.give tb_ok hm N N ⟨c_shape_Word N, c_grammar_reader_eat_v368 N, c_grammar_reader_fail_v927 N, trivial⟩ fun a r s h => by
  have l0 := s.loop 0 q_grammar_reader_mode_v424_0 (f_grammar_reader_mode_v424_0 N) N fun next0 h0 => by
    exact fun c v => s.seg 0 q_grammar_reader_mode_v424_0 [(0, .of q_grammar_reader_mode_v424_0 next0)] ⟨h0, trivial⟩ (by kernel_rfl) (by kernel_rfl)
  exact s.main [(0, .of q_grammar_reader_mode_v424_0 (r_grammar_reader_mode_v424_0 N))] ⟨l0, trivial⟩ (.trans (by kernel_rfl) h)
end
end Go.Proofs.YtahklhniofiofaaGreatDoor.D
namespace Go.Proofs.YtahklhniofiofaaGreatDoor.D
open Go
open Go.Proofs.Tryz
set_option maxRecDepth 1000000
set_option linter.unusedSimpArgs false
set_option linter.unusedVariables false
noncomputable section
noncomputable def F_grammar_reader_patternB_v424 : Fn C_grammar_reader_patternB_v424 := ⟨fB22, [], ⟨[], [], sbf, bof⟩, [C_grammar_reader_body_v927, C_grammar_reader_must_v368, C_grammar_reader_number_v424, C_grammar_reader_eat_v368, C_grammar_reader_name_v424, C_grammar_reader_mode_v424, C_grammar_reader_fail_v927], [true, false], none, 1, 0, (fun e H => match lk e 2, lk e 3, H.box with | .ptr 1 0, .ptr 2 0, _ :: [_, _, _, _] :: [_] :: _ => true | _, _, _ => false), none⟩
theorem o_grammar_reader_patternB_v424 : F_grammar_reader_patternB_v424.Ok0 prog := ⟨by kernel_rfl, hint_sb sb_ok bo_ok, trivial, trivial, fun _ => by kernel_rfl⟩
theorem k_grammar_reader_patternB_v424 (N : Nat) : conOk prog N F_grammar_reader_patternB_v424.con := ⟨c_grammar_reader_body_v927 N, c_grammar_reader_must_v368 N, c_grammar_reader_number_v424 N, c_grammar_reader_eat_v368 N, c_grammar_reader_name_v424 N, c_grammar_reader_mode_v424 N, c_grammar_reader_fail_v927 N, trivial⟩
end
end Go.Proofs.YtahklhniofiofaaGreatDoor.D
set_option linter.unusedVariables false
set_option linter.unusedSimpArgs false
namespace Go.Proofs.YtahklhniofiofaaGreatDoor.D
open Go Go.RowKit Go.Proofs.Tryz
set_option maxHeartbeats 4000000
set_option maxRecDepth 1000000
theorem fin_pre {P : Program} {ds : List Deferred} {b : Frame} {k : List Item} {a : Act} {w : World} {R : Array Value → Ending → World → Prop} {ops : Array Oper} {id : Nat} {a' : Act} {w' : World}
    (h : wpOps P ops (fun e a2 w2 => e = .normal ∧ a2 = a' ∧ w2 = w') (List.range ops.size) a w) (hf : Fin' P ds b k a' w' R) : Fin' P ds b (.code (.region id ops false) :: k) a w R :=
  Fin'.step (fun cs => step_region) (fun cs => by
    obtain ⟨e, a2, w2, ⟨rfl, rfl, rfl⟩, har⟩ := wp_ops _ a w h b k cs
    obtain ⟨e, w', fr, r, c, x⟩ := hf cs
    exact ⟨e, w', fr, r, c.of_steps har, x⟩)
def gpA : Array Oper := #[⟨some 2, .alloc 25, 0, "grammar.go:176", #[], none⟩, ⟨some 3, .alloc 27, 0, "grammar.go:176", #[], none⟩]
def gpB : Array Oper := #[⟨some 4, .makeFunc (.func 52) #[] #[.tmp 2, .tmp 3], 1, "grammar.go:177", #[], none⟩, ⟨none, .defer ⟨.value (.tmp 4), #[], #[]⟩, 0, "grammar.go:177", #[⟨0, .data⟩], none⟩]
noncomputable def gpR : Code := match f22.body with
  | some (.seq _ (.seq _ r)) => r
  | _ => .skip
theorem gp_body : f22.body = some (.seq (.region 0 gpA false) (.seq (.region 1 gpB false) gpR)) := by kernel_rfl
theorem gp_A (tm : Array Value) (w : World) : wpOps Tryz.prog gpA (fun e a2 w2 => e = .normal ∧ a2 = ⟨(tm.setIfInBounds 2 (.pointer (some ⟨w.heap.size, 0, none⟩))).setIfInBounds 3 (.pointer (some ⟨w.heap.size + 1, 0, none⟩)), []⟩ ∧
    w2 = (w.alloc (.cells #[.slice none 0 0, .int .i64 0, .string ⟨#[]⟩, .int .u8 0] 25)).alloc (.cells #[.nilIface] 27)) (List.range gpA.size) ⟨tm, []⟩ w := by
  have z1 : (zeroValue 25).run Tryz.prog w = .ok (.agg #[.slice none 0 0, .int .i64 0, .string ⟨#[]⟩, .int .u8 0]) w := Tryz.zeroValue25 w
  simp [gpA, wpOps, go_sem, z1, List.range, List.range.loop]
theorem gp_B (tm : Array Value) (w : World) (p q : Value) (h4 : 4 < tm.size) (h2 : tm.getD 2 undef = p) (h3 : tm.getD 3 undef = q) : wpOps Tryz.prog gpB (fun e a2 w2 => e = .normal ∧ a2 = ⟨tm.setIfInBounds 4 (.func (.func 52) #[] #[p, q]), [⟨.fn (.func 52) #[p, q], #[]⟩]⟩ ∧ w2 = w) (List.range gpB.size) ⟨tm, []⟩ w := by
  have hmf : ∀ (fn : Go.Fn) (first cap : Array Value) (w : World), (Instr.makeFunc fn first cap).run Tryz.prog w = .ok (.func fn first cap) w := fun _ _ _ _ => rfl
  simp [gpB, wpOps, go_sem, hmf, List.range, List.range.loop, h2, h3]
  refine .inl (.inl ?_)
  simp [h4, go_sem, Oper.upon]
theorem gta_nil (w : World) : (Instr.typeAssert .nilIface 20 84 true).run Tryz.prog w = .ok (.tuple #[.pointer none, .bool false]) w := by
  obtain ⟨z, hz⟩ : ∃ z, cTa Tryz.prog 84 = some z := ⟨.v (.pointer none), by kernel_rfl⟩
  obtain ⟨⟨d, hd, hn⟩, i, zv, hi, hzv, rfl⟩ := cTa_some hz
  have hv : (zeroValue 84).run Tryz.prog w = .ok (.pointer none) w := Tryz.zeroValue84 w
  simp only [Instr.typeAssert, Sem.run_bind, run_underlying hd, Result.andThen_ok]
  cases d <;> first | exact absurd rfl (hn _) | (simp only [if_true, Sem.run_bind, Sem.run_pure, hv, Result.andThen_ok])
theorem gta_hit (x : Value) (w : World) : (Instr.typeAssert (.iface 84 x) 20 84 true).run Tryz.prog w = .ok (.tuple #[x, .bool true]) w := by
  obtain ⟨z, hz⟩ : ∃ z, cTa Tryz.prog 84 = some z := ⟨.v (.pointer none), by kernel_rfl⟩
  obtain ⟨⟨d, hd, hn⟩, i, zv, hi, hzv, rfl⟩ := cTa_some hz
  simp only [Instr.typeAssert, Sem.run_bind, run_underlying hd, Result.andThen_ok]
  cases d <;> first | exact absurd rfl (hn _) | rfl | simp [Sem.run_bind, Sem.run_pure]
theorem gcatch_idle (p q : Addr) (w : World) : CallsD Tryz.prog 52 #[.pointer (some p), .pointer (some q)] .returning w fun e u' w' =>
    e = .returned (.tuple #[]) ∧ u' = .returning ∧ w' = w := by
  refine callsD_of_wpS Tryz.func52 rfl fun c₀ cs hu => ?_
  simp only [Tryz.ntmps52, List.size_toArray, List.length_cons, List.length_nil, Nat.reduceAdd, Nat.reduceSub, Array.replicate_succ,
     Array.replicate_zero, List.push_toArray, List.append_toArray, List.nil_append, List.cons_append]
  apply wpS_seq
  apply wpS_region
  simp [wpOpsS, go_sem, recoverD, hu, Exit.thenS, gta_nil]
  refine wpS_of_wp ?_
  go_wp2
  exact ⟨rfl, _, (by rw [← hu]), _, results_none rfl _ _ _, rfl, rfl, rfl⟩
theorem gcatch_panicking (g g' : Nat) (x : Value) (a b c d e : Value) (ta tb : TypeId) (older : List PanicEntry) (w : World) (h0 : w.heap[g]? = some (.cells #[a, b, c, d] ta (0, 0))) (h1 : w.heap[g']? = some (.cells #[e] tb (0, 0))) (hne : g ≠ g') :
    CallsD Tryz.prog 52 #[.pointer (some ⟨g, 0, none⟩), .pointer (some ⟨g', 0, none⟩)] (.panicking ({ v := .iface 84 x, recovered := false } :: older)) w fun en u' w' =>
    en = .returned (.tuple #[]) ∧ u' = .panicking ({ v := .iface 84 x, recovered := true } :: older) ∧
      w'.os = w.os ∧ w'.tape = w.tape ∧ w'.output = w.output ∧ w'.heap.size = w.heap.size ∧ (∀ i, i ≠ g → i ≠ g' → w'.heap[i]? = w.heap[i]?) ∧
      w'.heap[g]? = some (.cells #[.slice none 0 0, .int .i64 0, .string ⟨#[]⟩, .int .u8 0] ta (0, 0)) ∧ w'.heap[g']? = some (.cells #[.iface 84 x] tb (0, 0)) := by
  have g0 : g < w.heap.size := (Array.getElem?_eq_some_iff.1 h0).1
  have g1 : g' < w.heap.size := (Array.getElem?_eq_some_iff.1 h1).1
  have c0 : w.cell? ⟨g, 0, none⟩ = some a := by simp [World.cell?, h0]
  have c1 : w.cell? ⟨g, 1, none⟩ = some b := by simp [World.cell?, h0]
  have c2 : w.cell? ⟨g, 2, none⟩ = some c := by simp [World.cell?, h0]
  have c3 : w.cell? ⟨g, 3, none⟩ = some d := by simp [World.cell?, h0]
  have c4 : w.cell? ⟨g', 0, none⟩ = some e := by simp [World.cell?, h1]
  have f0 : w.frozen? ⟨g, 0, none⟩ = false := by simp [World.frozen?, h0]
  have f1 : w.frozen? ⟨g, 1, none⟩ = false := by simp [World.frozen?, h0]
  have f2 : w.frozen? ⟨g, 2, none⟩ = false := by simp [World.frozen?, h0]
  have f3 : w.frozen? ⟨g, 3, none⟩ = false := by simp [World.frozen?, h0]
  have f4 : w.frozen? ⟨g', 0, none⟩ = false := by simp [World.frozen?, h1]
  refine callsD_of_wpS Tryz.func52 rfl fun c₀ cs hu => ?_
  simp only [Tryz.ntmps52, List.size_toArray, List.length_cons, List.length_nil, Nat.reduceAdd, Nat.reduceSub, Array.replicate_succ,
     Array.replicate_zero, List.push_toArray, List.append_toArray, List.nil_append, List.cons_append]
  apply wpS_seq
  apply wpS_region
  simp [wpOpsS, go_sem, recoverD, hu, Exit.thenS, gta_hit]
  refine wpS_of_wp ?_
  go_wp2
  refine ⟨rfl, _, rfl, _, results_none rfl _ _ _, rfl, rfl, rfl, rfl, rfl, by simp, fun i hi hi' => ?_, ?_, ?_⟩
  · rw [heap_setCell_other _ _ _ _ hi', heap_setCell_other _ _ _ _ hi, heap_setCell_other _ _ _ _ hi, heap_setCell_other _ _ _ _ hi, heap_setCell_other _ _ _ _ hi]
  · rw [heap_setCell_other _ _ _ _ hne, heap_setCell_same _ _ _ _ _ _ (heap_setCell_same _ _ _ _ _ _ (heap_setCell_same _ _ _ _ _ _ (heap_setCell_same _ _ _ _ _ _ h0)))]; rfl
  · rw [heap_setCell_same _ _ _ _ _ _ (by rw [heap_setCell_other _ _ _ _ (Ne.symm hne), heap_setCell_other _ _ _ _ (Ne.symm hne), heap_setCell_other _ _ _ _ (Ne.symm hne), heap_setCell_other _ _ _ _ (Ne.symm hne)]; exact h1)]; rfl
/-- A frame's end, told as less, and that what is no box of those that stay is beside. -/
theorem post_endX {Hin H' H1 : AH} {e r : AE} {M0 M1 : Maps} {S0 S1 : Nat → Prop} {w0 w' : World} {en : Ending} (hp : PostQ0 Hin e H' r H1) (hend : EndRep M1 S1 w' en r) (hh1 : RelH M1 S1 H1 w') (hf1 : Frm M0 S0 Hin w0 M1 S1 H1 w') :
    ∃ M' S', EndRep M' S' w' en e ∧ RelH M' S' H' w' ∧ Frm M0 S0 Hin w0 M' S' H' w' ∧ ∀ b, b < H1.box.length → ¬ S' (M1.box b) := by
  obtain ⟨fs, rb, rt, kb, kt, hle, hre⟩ := hp
  obtain ⟨S2, hh2, hf2⟩ := RelH.freezes (H := H1) fs (S := S1) (buf := H1.buf) hh1
  obtain ⟨hh3, hfoot⟩ := RelH.ren (H := frzH H1 fs) hh2 hle
  refine ⟨M1.ren rb rt, S2, ?_, hh3, frm_ren hf1 hf2 kb kt hfoot, fun b hb => (hh2.box b hb).un⟩
  cases en with
  | returned v =>
    cases r with
    | ret x =>
      cases e with
      | ret y => exact rep_le2 (H := frzH H1 fs) hh2 (VRep.mono hf2.sub hf2.stab hf2.le hend) hre
      | pan y => exact hre.elim
    | pan x => exact hend.elim
  | panicked ch =>
    cases r with
    | ret x => exact hend.elim
    | pan x =>
      cases e with
      | ret y => exact hre.elim
      | pan y =>
        obtain ⟨v, hv, hx⟩ := hend
        exact ⟨v, hv, rep_le2 (H := frzH H1 fs) hh2 (VRep.mono hf2.sub hf2.stab hf2.le hx) hre⟩
  | outgrown => cases r <;> exact hend.elim
theorem postw_end {Hin H' H1 : AH} {e r : AE} {M0 M1 : Maps} {S0 S1 : Nat → Prop} {w0 w' : World} {en : Ending} (hq : PostW Hin e H' r H1) (hend : EndRep M1 S1 w' en r) (hh1 : RelH M1 S1 H1 w') (hf1 : Frm M0 S0 Hin w0 M1 S1 H1 w') :
    ∃ M' S', EndRep M' S' w' en e ∧ RelH M' S' H' w' ∧ Frm M0 S0 Hin w0 M' S' H' w' ∧ ((∃ p, r = .pan p) → ∀ b, b < H1.box.length → ¬ S' (M1.box b)) := by
  obtain ⟨e2, H2, hq, hl1, hl2⟩ := hq
  have key : (∃ M' S', EndRep M' S' w' en e2 ∧ RelH M' S' H2 w' ∧ Frm M0 S0 Hin w0 M' S' H2 w' ∧ ((∃ p, r = .pan p) → ∀ b, b < H1.box.length → ¬ S' (M1.box b))) := by
    rcases hq with hq | ⟨rfl, m, hq⟩
    · obtain ⟨M', S', k1, k2, k3, k4⟩ := post_endX hq hend hh1 hf1
      exact ⟨M', S', k1, k2, k3, fun _ => k4⟩
    · cases en with
      | returned v =>
        obtain ⟨h1, h2, h3⟩ := own_of_emp hh1 (emp_rep hend) m
        obtain ⟨M', S', k1, k2, k3⟩ := post_end hq (en := .returned v) h3 h1 (hf1.trans h2)
        exact ⟨M', S', k1, k2, k3, fun ⟨p, hp⟩ => by cases hp⟩
      | panicked ch => exact hend.elim
      | outgrown => exact hend.elim
  obtain ⟨M', S', k1, k2, k3, k4⟩ := key
  exact ⟨M', S', endRep_lw k1 hl1, k2.lw hl2, k3.lwR hl2, k4⟩
/-- Two blocks beside what is told are written. -/
theorem two_beside {M0 M : Maps} {S0 S : Nat → Prop} {Hin H : AH} {w0 w w' : World} {g g' : Nat} (hh : RelH M S H w) (hf : Frm M0 S0 Hin w0 M S H w) (ho : w'.os = w.os) (ht : w'.tape = w.tape) (hu : w'.output = w.output) (hz : w'.heap.size = w.heap.size)
    (hk : ∀ i, i ≠ g → i ≠ g' → w'.heap[i]? = w.heap[i]?) (s1 : ¬ S g) (s2 : ¬ S g') (f1 : ¬ foot M H g) (f2 : ¬ foot M H g') (n1 : w0.heap.size ≤ g) (n2 : w0.heap.size ≤ g') :
    RelH M S H w' ∧ Frm M0 S0 Hin w0 M S H w' ∧ ∀ i, S i → w'.heap[i]? = w.heap[i]? := by
  have hs : ∀ i, S i → w'.heap[i]? = w.heap[i]? := fun i hi => hk i (fun e => s1 (e ▸ hi)) (fun e => s2 (e ▸ hi))
  have hft : ∀ i, foot M H i → w'.heap[i]? = w.heap[i]? := fun i hi => hk i (fun e => f1 (e ▸ hi)) (fun e => f2 (e ▸ hi))
  refine ⟨hh.keep (by omega) hs hft, ⟨hf.wnb, hf.wnt, ho.trans hf.os, ht.trans hf.tape, hu.trans hf.output, by rw [hz]; exact hf.size, hf.sub, fun i hi => (hs i (hf.sub i hi)).trans (hf.stab i hi), fun i hi hn => (hk i (by omega) (by omega)).trans (hf.old i hi hn), hf.le, hf.news, hf.newf⟩, hs⟩
noncomputable def gpS : SC := match bd prog fB22 with
  | .seq _ b => b
  | c => c
theorem gp_comp : comp prog false gpR = some gpS := by kernel_rfl
def gpP : List AV := [.emp, .v (.int .i64 0), .v (.string ⟨#[]⟩), .v (.int .u8 0)]
def gpE : List AV := [.v .nilIface]
abbrev gpIn (y : List lex_Token) (y2 y3 : Int) : C_grammar_reader_patternB_v424.A := (((), ()), ((y, y2, y3, ()), ()), ())
noncomputable def gpEnv (y : List lex_Token) (y2 y3 : Int) : SE T := (4, .raw .any) :: (3, .ptr 2 0) :: (2, .ptr 1 0) :: argE (C_grammar_reader_patternB_v424.inn (gpIn y y2 y3)).1
noncomputable def gpHeap (y : List lex_Token) (y2 y3 : Int) : BH T := ⟨(C_grammar_reader_patternB_v424.inn (gpIn y y2 y3)).2.box ++ [gpP.map cbv1] ++ [gpE.map cbv1], (C_grammar_reader_patternB_v424.inn (gpIn y y2 y3)).2.buf⟩
theorem gp_run (N : Nat) (y : List lex_Token) (y2 y3 : Int) {x : C_grammar_reader_patternB_v424.R} (hx : s_grammar_reader_patternB_v424 N y y2 y3 = some x) :
    sx (F_grammar_reader_patternB_v424.set prog N []) 995 [.c gpS] (gpEnv y y2 y3) (gpHeap y y2 y3) = some x := .trans (by kernel_rfl) hx
theorem gp_ids : idsOk gpS = true := by kernel_rfl
/-- What is said at the end of what is not put off. -/
def gpQ (y : List lex_Token) (y2 y3 : Int) (x : C_grammar_reader_patternB_v424.R) (t : List AV) (e : AE) (H : AH) : Prop :=
  PostW ((C_grammar_reader_patternB_v424.inn (gpIn y y2 y3)).2.av tb) (aeA ((C_grammar_reader_patternB_v424.o.enc x).1.av tb)) ((C_grammar_reader_patternB_v424.o.enc x).2.av tb) e H ∧
    ((∃ p, e = .pan p) → t.getD 2 .any = .ptr 1 0 ∧ t.getD 3 .any = .ptr 2 0 ∧ (H.box.getD 1 []).length = 4 ∧ (H.box.getD 2 []).length = 1)
noncomputable def gpX (y : List lex_Token) (y2 y3 : Int) (x : C_grammar_reader_patternB_v424.R) (d : Deferred) : Ctx := ⟨prog, 22, f22, resOf prog fB22, (gpHeap y y2 y3).av tb, gpQ y y2 y3 x, [d]⟩
theorem gp_ok (y : List lex_Token) (y2 y3 : Int) (x : C_grammar_reader_patternB_v424.R) (d : Deferred) : (gpX y y2 y3 x d).ok := ⟨func22, by kernel_rfl, hm⟩
theorem gp_kt {e : SE T} {H : BH T} {t : List AV} (hr : RelE tb e t 34) (h : F_grammar_reader_patternB_v424.kt e H = true) : t.getD 2 .any = .ptr 1 0 ∧ t.getD 3 .any = .ptr 2 0 ∧ ((H.av tb).box.getD 1 []).length = 4 ∧ ((H.av tb).box.getD 2 []).length = 1 := by
  obtain ⟨hb, hbuf⟩ := H
  simp only [F_grammar_reader_patternB_v424] at h
  split at h
  · rename_i h2 h3
    exact ⟨by rw [hr.get, h2]; rfl, by rw [hr.get, h3]; rfl, rfl, rfl⟩
  · cases h
theorem gp_sx (N : Nat) (y : List lex_Token) (y2 y3 : Int) (x : C_grammar_reader_patternB_v424.R) (d : Deferred) : SxOk (gpX y y2 y3 x d) (stkO gpS) (F_grammar_reader_patternB_v424.set prog N []) x :=
  ⟨tb_ok, rfl, rfl, .inl rfl, ⟨_, by kernel_rfl, by kernel_rfl, fun t a H hk hp => ⟨hp, fun hpan => by
    obtain ⟨e, Hb, h1, rfl, h2⟩ := hk hpan
    exact gp_kt h1 h2⟩⟩, conOk_mem (k_grammar_reader_patternB_v424 N), (o_grammar_reader_patternB_v424).hint, (o_grammar_reader_patternB_v424).mks, (o_grammar_reader_patternB_v424).ex, fun id L hL => by cases hL⟩
theorem gp_after (N : Nat) (y : List lex_Token) (y2 y3 : Int) (x : C_grammar_reader_patternB_v424.R) (d : Deferred) (hx : s_grammar_reader_patternB_v424 N y y2 y3 = some x) {t : List AV} (ht : RelE tb (gpEnv y y2 y3) t 34) : go (gpX y y2 y3 x d) [.c gpS] t ((gpHeap y y2 y3).av tb) :=
  sx_ok (gp_sx N y y2 y3 x d) 995 _ _ _ _ ht (stk_main gp_ids) (gp_run N y y2 y3 hx)
theorem gp_env {y : List lex_Token} {y2 y3 : Int} : RelE tb (gpEnv y y2 y3) (putT (putT (putT (SE.av tb 34 (argE (C_grammar_reader_patternB_v424.inn (gpIn y y2 y3)).1)) (some 2) (.ptr 1 0)) (some 3) (.ptr 2 0)) (some 4) .any) 34 := by
  have h0 : RelE tb (argE (C_grammar_reader_patternB_v424.inn (gpIn y y2 y3)).1) (SE.av tb 34 (argE (C_grammar_reader_patternB_v424.inn (gpIn y y2 y3)).1)) 34 := RelE.of (ks := [0]) rfl rfl
  exact ((h0.put (d := some 2) rfl (.ptr 1 0)).put (d := some 3) rfl (.ptr 2 0)).put (d := some 4) rfl (.raw .any)
theorem relT_arg {M : Maps} {S : Nat → Prop} {w : World} {v : Value} (hv : VRep M S w v (.ptr 0 0)) (y : List lex_Token) (y2 y3 : Int) : RelT M S w (SE.av tb 34 (argE (C_grammar_reader_patternB_v424.inn (gpIn y y2 y3)).1)) (#[v] ++ Array.replicate 33 undef) := by
  have h0 : RelE tb (argE (C_grammar_reader_patternB_v424.inn (gpIn y y2 y3)).1) (SE.av tb 34 (argE (C_grammar_reader_patternB_v424.inn (gpIn y y2 y3)).1)) 34 := RelE.of (ks := [0]) rfl rfl
  generalize SE.av tb 34 (argE (C_grammar_reader_patternB_v424.inn (gpIn y y2 y3)).1) = t at *
  refine ⟨by rw [h0.len]; simp, fun i hi => ?_⟩
  rw [h0.get]
  cases i with
  | zero =>
    show VRep M S w ((#[v] ++ Array.replicate 33 undef).getD 0 undef) (.ptr 0 0)
    have e : (#[v] ++ Array.replicate 33 undef).getD 0 undef = v := by simp [Array.getD]
    rw [e]; exact hv
  | succ i =>
    show VRep M S w _ .any
    exact .data (.any _)
abbrev gpHin (y : List lex_Token) (y2 y3 : Int) : AH := (C_grammar_reader_patternB_v424.inn (gpIn y y2 y3)).2.av tb
def gpW (w : World) : World := (w.alloc (.cells #[.slice none 0 0, .int .i64 0, .string ⟨#[]⟩, .int .u8 0] 25)).alloc (.cells #[.nilIface] 27)
def gpM (M : Maps) (w : World) : Maps := (M.addBox w.heap.size).addBox (w.heap.size + 1)
theorem gp_start {M : Maps} {S : Nat → Prop} {w : World} {y : List lex_Token} {y2 y3 : Int} (hh : RelH M S (gpHin y y2 y3) w) :
    RelH (gpM M w) S ((gpHeap y y2 y3).av tb) (gpW w) ∧ Frm M S (gpHin y y2 y3) w (gpM M w) S ((gpHeap y y2 y3).av tb) (gpW w) ∧ (gpM M w).box 1 = w.heap.size ∧ (gpM M w).box 2 = w.heap.size + 1 ∧ (gpM M w).nb = 3 := by
  have hnb : M.nb = 1 := hh.nb
  have g1 := Grew.alloc w (.cells #[.slice none 0 0, .int .i64 0, .string ⟨#[]⟩, .int .u8 0] 25)
  have b1 : (w.alloc (.cells #[.slice none 0 0, .int .i64 0, .string ⟨#[]⟩, .int .u8 0] 25)).heap[w.heap.size]? = some (.cells #[.slice none 0 0, .int .i64 0, .string ⟨#[]⟩, .int .u8 0] 25 (0, 0)) := push_new _ _
  have r1 := hh.addBox g1 (Nat.le_refl _) b1 (cs := gpP) rfl rfl (fun i hi => by
    match i, hi with
    | 0, _ => exact .data (.emp none)
    | 1, _ => exact .data (.v _)
    | 2, _ => exact .data (.v _)
    | 3, _ => exact .data (.v _))
  have f1 := Frm.addBox (cs := gpP) hh g1 (Nat.le_refl _)
  have hz : (w.alloc (.cells #[.slice none 0 0, .int .i64 0, .string ⟨#[]⟩, .int .u8 0] 25)).heap.size = w.heap.size + 1 := by simp
  have g2 := Grew.alloc (w.alloc (.cells #[.slice none 0 0, .int .i64 0, .string ⟨#[]⟩, .int .u8 0] 25)) (.cells #[.nilIface] 27)
  have b2 : (gpW w).heap[w.heap.size + 1]? = some (.cells #[.nilIface] 27 (0, 0)) := by rw [← hz]; exact push_new _ _
  have r2 := r1.addBox g2 (g := w.heap.size + 1) (by rw [hz]; exact Nat.le_refl _) b2 (cs := gpE) rfl rfl (fun i hi => by
    match i, hi with
    | 0, _ => exact .data (.v _))
  have f2 := Frm.addBox (cs := gpE) (g := w.heap.size + 1) r1 g2 (by rw [hz]; exact Nat.le_refl _)
  refine ⟨r2, f1.trans f2, ?_, ?_, ?_⟩
  · simp [gpM, Maps.addBox, hnb]
  · simp [gpM, Maps.addBox, hnb]
  · simp [gpM, Maps.addBox, hnb]
/-- What is not put off, carried out. -/
theorem gp_fin (N : Nat) {M : Maps} {S : Nat → Prop} {w : World} {y : List lex_Token} {y2 y3 : Int} {x : C_grammar_reader_patternB_v424.R} {v : Value} (hx : s_grammar_reader_patternB_v424 N y y2 y3 = some x) (hh : RelH M S (gpHin y y2 y3) w) (hp : Prot prog M (gpHin y y2 y3) w) (hv : VRep M S w v (.ptr 0 0)) {b : Frame} (hb : b.fn = 22) (hbk : b.kind = .normal) :
    Fin' prog [⟨.fn (.func 52) #[.pointer (some ⟨w.heap.size, 0, none⟩), .pointer (some ⟨w.heap.size + 1, 0, none⟩)], #[]⟩] b [.code (.seq (.region 0 gpA false) (.seq (.region 1 gpB false) gpR))] ⟨#[v] ++ Array.replicate 33 undef, []⟩ w (Post (gpQ y y2 y3 x) ((gpHeap y y2 y3).av tb) (gpM M w) S (gpW w)) := by
  obtain ⟨r1, f1, e1, e2, e3⟩ := gp_start hh
  have ht0 := (relT_arg hv y y2 y3).mono f1
  have hp1 := hp.frm f1
  have p1 : VRep (gpM M w) S (gpW w) (.pointer (some ⟨w.heap.size, 0, none⟩)) (.ptr 1 0) := by
    have := VRep.ptr (M := gpM M w) (S := S) (w := gpW w) 1 0 (by omega)
    rwa [e1] at this
  have p2 : VRep (gpM M w) S (gpW w) (.pointer (some ⟨w.heap.size + 1, 0, none⟩)) (.ptr 2 0) := by
    have := VRep.ptr (M := gpM M w) (S := S) (w := gpW w) 2 0 (by omega)
    rwa [e2] at this
  have ht1 := RelT.put (a := ⟨#[v] ++ Array.replicate 33 undef, []⟩) ht0 (some 2) p1
  have ht2 := RelT.put (a := Act.put ⟨#[v] ++ Array.replicate 33 undef, []⟩ (some 2) (.pointer (some ⟨w.heap.size, 0, none⟩))) ht1 (some 3) p2
  have hrun := gp_after N y y2 y3 x ⟨.fn (.func 52) #[.pointer (some ⟨w.heap.size, 0, none⟩), .pointer (some ⟨w.heap.size + 1, 0, none⟩)], #[]⟩ hx gp_env
  have hsz : (#[v] ++ Array.replicate 33 undef).size = 34 := by simp
  generalize (#[v] ++ Array.replicate 33 undef) = tm at *
  generalize SE.av tb 34 (argE (C_grammar_reader_patternB_v424.inn (gpIn y y2 y3)).1) = t0 at *
  refine Fin'.step (fun cs => step_seq) (fin_pre (gp_A tm w) (Fin'.step (fun cs => step_seq) (fin_pre (gp_B _ _ (.pointer (some ⟨w.heap.size, 0, none⟩)) (.pointer (some ⟨w.heap.size + 1, 0, none⟩)) ?_ ?_ ?_) ?_)))
  · simp [hsz]
  · simp [hsz, Array.getD]
  · simp [hsz, Array.getD]
  · have ht3 := RelT.put (a := Act.put (Act.put ⟨tm, []⟩ (some 2) (.pointer (some ⟨w.heap.size, 0, none⟩))) (some 3) (.pointer (some ⟨w.heap.size + 1, 0, none⟩))) ht2 (some 4) (v := .func (.func 52) #[] #[.pointer (some ⟨w.heap.size, 0, none⟩), .pointer (some ⟨w.heap.size + 1, 0, none⟩)]) (r := .any) (.data (.any _))
    exact go_AGo hrun (gp_ok y y2 y3 x _) (gpM M w) S (gpW w) hp1 (gpM M w) S ⟨((tm.setIfInBounds 2 (.pointer (some ⟨w.heap.size, 0, none⟩))).setIfInBounds 3 (.pointer (some ⟨w.heap.size + 1, 0, none⟩))).setIfInBounds 4 (.func (.func 52) #[] #[.pointer (some ⟨w.heap.size, 0, none⟩), .pointer (some ⟨w.heap.size + 1, 0, none⟩)]), [⟨.fn (.func 52) #[.pointer (some ⟨w.heap.size, 0, none⟩), .pointer (some ⟨w.heap.size + 1, 0, none⟩)], #[]⟩]⟩ (gpW w) [.code gpR] (.code false gp_comp .nil) (Frm.refl r1) ht3 r1 rfl b hb hbk
theorem ifc_inv {M : Maps} {S : Nat → Prop} {w : World} {v : Value} {t : TypeId} {a : AV} {cs : List AV} (ha : a = .dptr cs) (h : VRep M S w v (.ifc t a)) : ∃ u, v = .iface t u ∧ DRep S w u a := by
  cases h with
  | data h => cases h with | ifc _ u _ h => exact ⟨u, rfl, h⟩
  | ifc _ u _ h => subst ha; cases h with | data h => exact ⟨u, rfl, h⟩
theorem ptr_inv {M : Maps} {S : Nat → Prop} {w : World} {v : Value} {b o : Nat} (h : VRep M S w v (.ptr b o)) : v = .pointer (some ⟨M.box b, o, none⟩) := by
  cases h with
  | data h => cases h
  | ptr => rfl
theorem gp_results (tm : Array Value) (w : World) (g g' : Nat) (a b c d e : Value) (ta tb' : TypeId) (h2 : tm.getD 2 undef = .pointer (some ⟨g, 0, none⟩)) (h3 : tm.getD 3 undef = .pointer (some ⟨g', 0, none⟩)) (h0 : w.heap[g]? = some (.cells #[a, b, c, d] ta (0, 0))) (h1 : w.heap[g']? = some (.cells #[e] tb' (0, 0))) :
    (results f22 tm).run prog w = .ok (.tuple #[.agg #[a, b, c, d], e]) w := by
  have c0 : w.cell? ⟨g, 0, none⟩ = some a := by simp [World.cell?, h0]
  have c1 : w.cell? ⟨g, 1, none⟩ = some b := by simp [World.cell?, h0]
  have c2 : w.cell? ⟨g, 2, none⟩ = some c := by simp [World.cell?, h0]
  have c3 : w.cell? ⟨g, 3, none⟩ = some d := by simp [World.cell?, h0]
  have c4 : w.cell? ⟨g', 0, none⟩ = some e := by simp [World.cell?, h1]
  rw [Array.getD_eq_getD_getElem?] at h2 h3
  simp [results, Tryz.results22, go_sem, h2, h3, c0, c1, c2, c3, c4]
theorem c_grammar_reader_pattern_v424 (N : Nat) : C_grammar_reader_pattern_v424.Ok prog N := by
  refine ⟨⟨f22, func22, by kernel_rfl, by kernel_rfl⟩, fun a r h => ?_⟩
  obtain ⟨⟨⟨⟩, ⟨⟩⟩, ⟨⟨y, y2, y3, ⟨⟩⟩, ⟨⟩⟩, ⟨⟩⟩ := a
  have h : s_grammar_reader_pattern_v424 N y y2 y3 = some r := h
  obtain ⟨x, hx, h⟩ := Option.bind_eq_some_iff.1 h
  intro M S w vs hh hp hsz hrep cs
  obtain ⟨v0, rfl⟩ : ∃ v, vs = #[v] := by
    match vs, hsz with
    | ⟨[v]⟩, _ => exact ⟨v, rfl⟩
  have hv : VRep M S w v0 (.ptr 0 0) := hrep 0 (by decide : 0 < 1)
  have hh : RelH M S (gpHin y y2 y3) w := hh
  have hp : Prot prog M (gpHin y y2 y3) w := hp
  have hfin := gp_fin N hx hh hp hv (b := { (default : Frame) with fn := 22, kind := .normal }) rfl rfl cs
  obtain ⟨e, w', fr, ⟨t, r', Hf, Mf, Sf, ⟨hq, hkt⟩, hT, hend, hhf, hff⟩, hcm, hfn, hlv⟩ := hfin
  have henter : Frame.enter prog 22 #[v0] .normal = ({ (default : Frame) with fn := 22, kind := .normal } : Frame).at ⟨#[v0] ++ Array.replicate 33 undef, []⟩ [.code (.seq (.region 0 gpA false) (.seq (.region 1 gpB false) gpR))] := by
    simp [Frame.enter, Frame.at, Tryz.func22, Tryz.ntmps22, gp_body]
  show ∃ e w' fr, _ ∧ Comes prog (lone (Frame.enter prog 22 #[v0] .normal) cs w) (lone fr cs w') e ∧ _ ∧ _
  rw [henter]
  obtain ⟨r1, f1, e1, e2, e3⟩ := gp_start hh
  have hall := f1.trans hff
  obtain ⟨M', S', k1, k2, k3, k4⟩ := postw_end hq hend hhf hall
  have hfn' : prog.funcs[fr.fn]? = some f22 := by rw [hfn]; exact func22
  cases x with
  | inl p =>
    obtain rfl : r = .inl p := (Option.some.inj h).symm
    cases e with
    | returned v =>
      obtain ⟨hm1, hd, hk, fn, hf1, hres⟩ := hlv
      obtain rfl : fn = f22 := Option.some.inj (hf1.symm.trans hfn')
      have hL : Leaves prog f22 fr.tmps (fun e w' => ∃ M' S', EndRep M' S' w' e (aeA ((C_grammar_reader_pattern_v424.o.enc (.inl p)).1.av tb)) ∧ RelH M' S' ((C_grammar_reader_pattern_v424.o.enc (.inl p)).2.av tb) w' ∧ Frm M S (gpHin y y2 y3) w M' S' ((C_grammar_reader_pattern_v424.o.enc (.inl p)).2.av tb) w') _ .returning w' :=
        leaves_cons (f := 52) (args := #[.pointer (some ⟨w.heap.size, 0, none⟩), .pointer (some ⟨w.heap.size + 1, 0, none⟩)]) (fv := .func 52) (cap := #[.pointer (some ⟨w.heap.size, 0, none⟩), .pointer (some ⟨w.heap.size + 1, 0, none⟩)]) (dargs := #[]) (ds := []) (by simp) (by simp [go_sem]) ((gcatch_idle _ _ w').mono (by
          rintro e2 u' w2 ⟨rfl, rfl, rfl⟩
          exact ⟨v, hres, M', S', k1, k2, k3⟩))
      obtain ⟨e', w2, fr', hR, hs, hfn2, hl⟩ := leaves_steps _ .returning w' fr cs hm1 hd rfl hfn' hk hL
      exact ⟨e', w2, fr', hR, Comes.of_steps hcm hs, hfn2.trans hfn, hl⟩
    | panicked ch => exact (show False from k1).elim
    | outgrown => exact hlv.elim
  | inr f =>
    obtain ⟨c, at_, l, i, e0⟩ := f
    obtain rfl : r = .inr (⟨[], 0, [], 0⟩, c, at_, l, i, e0) := (Option.some.inj h).symm
    cases e with
    | returned v => exact (show False from k1).elim
    | outgrown => exact hlv.elim
    | panicked ch =>
      obtain ⟨v, rfl, hvv⟩ := (show ∃ v, ch = [{ v, recovered := false }] ∧ VRep M' S' w' v (.ifc 84 (.dptr [.v (.int .i64 c), .v (.int .i64 at_)])) from k1)
      obtain ⟨u, rfl, hu⟩ := ifc_inv rfl hvv
      obtain ⟨hm1, hd, hk, fn, hf1⟩ := hlv
      cases r' with
      | ret z => exact (show False from hend).elim
      | pan z =>
      obtain ⟨kt2, kt3, kl1, kl2⟩ := hkt ⟨z, rfl⟩
      have hl2 : 2 < t.length := by
        rcases Nat.lt_or_ge 2 t.length with hlt | hge
        · exact hlt
        · simp [List.getD, List.getElem?_eq_none hge] at kt2
      have hl3 : 3 < t.length := by
        rcases Nat.lt_or_ge 3 t.length with hlt | hge
        · exact hlt
        · simp [List.getD, List.getElem?_eq_none hge] at kt3
      have v2 := hT.2 2 hl2
      have v3 := hT.2 3 hl3
      rw [kt2] at v2
      rw [kt3] at v3
      have v2 := ptr_inv v2
      have v3 := ptr_inv v3
      have m1 : Mf.box 1 = w.heap.size := (hff.le.box 1 (by omega)).trans e1
      have m2 : Mf.box 2 = w.heap.size + 1 := (hff.le.box 2 (by omega)).trans e2
      rw [m1] at v2
      rw [m2] at v3
      have hb3 : 3 ≤ Hf.box.length := by rw [← hhf.nb, ← e3]; exact hff.le.nb
      obtain ⟨c1, T1, q1, q2, _⟩ := (hhf.box 1 (by omega)).at_
      obtain ⟨c2, T2, q3, q4, _⟩ := (hhf.box 2 (by omega)).at_
      rw [m1] at q1
      rw [m2] at q3
      obtain ⟨x0, x1, x2, x3, rfl⟩ : ∃ x0 x1 x2 x3, c1 = #[x0, x1, x2, x3] := by
        match c1, q2.trans kl1 with
        | ⟨[x0, x1, x2, x3]⟩, _ => exact ⟨x0, x1, x2, x3, rfl⟩
      obtain ⟨x4, rfl⟩ : ∃ x4, c2 = #[x4] := by
        match c2, q4.trans kl2 with
        | ⟨[x4]⟩, _ => exact ⟨x4, rfl⟩
      have s1 : ¬ S' w.heap.size := m1 ▸ k4 ⟨z, rfl⟩ 1 (by omega)
      have s2 : ¬ S' (w.heap.size + 1) := m2 ▸ k4 ⟨z, rfl⟩ 2 (by omega)
      have hM0 : M.box 0 < w.heap.size := by
        obtain ⟨_, _, hq, _⟩ := (hh.box 0 (by decide : 0 < 1)).at_
        exact (Array.getElem?_eq_some_iff.1 hq).1
      have hM1 : M'.box 0 = M.box 0 := k3.le.box 0 (by rw [hh.nb]; exact (by decide : 0 < 1))
      have hft : ∀ g, w.heap.size ≤ g → ¬ foot M' ((C_grammar_reader_patternB_v424.o.enc (.inr (c, at_, l, i, e0))).2.av tb) g := fun g hg hf => by
        rcases hf with ⟨b, hb, hbe⟩ | ⟨t, ht, _⟩
        · obtain rfl : b = 0 := by have : b < 1 := hb; omega
          omega
        · cases ht
      have hL : Leaves prog f22 fr.tmps (fun e w' => ∃ M' S', EndRep M' S' w' e (aeA ((C_grammar_reader_pattern_v424.o.enc (.inr (⟨[], 0, [], 0⟩, c, at_, l, i, e0))).1.av tb)) ∧ RelH M' S' ((C_grammar_reader_pattern_v424.o.enc (.inr (⟨[], 0, [], 0⟩, c, at_, l, i, e0))).2.av tb) w' ∧ Frm M S (gpHin y y2 y3) w M' S' ((C_grammar_reader_pattern_v424.o.enc (.inr (⟨[], 0, [], 0⟩, c, at_, l, i, e0))).2.av tb) w') _ (.panicking [{ v := .iface 84 u, recovered := false }]) w' :=
        leaves_cons (f := 52) (args := #[.pointer (some ⟨w.heap.size, 0, none⟩), .pointer (some ⟨w.heap.size + 1, 0, none⟩)]) (fv := .func 52) (cap := #[.pointer (some ⟨w.heap.size, 0, none⟩), .pointer (some ⟨w.heap.size + 1, 0, none⟩)]) (dargs := #[]) (ds := []) (by simp) (by simp [go_sem]) ((gcatch_panicking w.heap.size (w.heap.size + 1) u x0 x1 x2 x3 x4 T1 T2 [] w' q1 q3 (by omega)).mono (by
          rintro e2 u' w2 ⟨rfl, rfl, ho, ht, hu', hz, hk', hg, hg'⟩
          obtain ⟨n1, n2, n3⟩ := two_beside k2 k3 ho ht hu' hz hk' s1 s2 (hft _ (Nat.le_refl _)) (hft _ (Nat.le_succ _)) (Nat.le_refl _) (Nat.le_succ _)
          refine ⟨_, gp_results fr.tmps w2 _ _ _ _ _ _ _ _ _ v2 v3 hg hg', M', S', ?_, n1, n2⟩
          have hu2 := hu.mono (fun _ h => h) n3
          show VRep M' S' w2 _ (.tup [_, .ifc 84 (.dptr [.v (.int .i64 c), .v (.int .i64 at_)])])
          refine .data (.tup _ _ rfl fun i hi => ?_)
          match i, hi with
          | 0, _ =>
            refine .agg _ _ rfl fun j hj => ?_
            match j, hj with
            | 0, _ => exact .sl0 none 0 _
            | 1, _ => exact .v _
            | 2, _ => exact .v _
            | 3, _ => exact .v _
          | 1, _ => exact .ifc _ _ _ hu2))
      obtain ⟨e', w2, fr', hR, hs, hfn2, hl⟩ := leaves_steps _ _ w' fr cs hm1 hd rfl hfn' hk hL
      exact ⟨e', w2, fr', hR, Comes.of_steps hcm hs, hfn2.trans hfn, hl⟩
end Go.Proofs.YtahklhniofiofaaGreatDoor.D
namespace Go.Proofs.YtahklhniofiofaaGreatDoor.D
open Go
open Go.Proofs.Tryz
set_option maxRecDepth 1000000
set_option linter.unusedSimpArgs false
set_option linter.unusedVariables false
noncomputable section
noncomputable def F_shape_Node_list : Fn C_shape_Node_list := ⟨f76, [], ⟨[], [], sbf, bof⟩, [], [true], none, 0, 0, fun _ _ => true, none⟩
theorem o_shape_Node_list : F_shape_Node_list.Ok prog := ⟨Is.of (by kernel_rfl) (by kernel_rfl), by kernel_rfl, hint_sb sb_ok bo_ok, trivial, trivial, fun _ => by kernel_rfl⟩
theorem c_shape_Node_list (N : Nat) : C_shape_Node_list.Ok prog N := o_shape_Node_list.give tb_ok hm N N trivial fun a r s h => by
  exact s.main [] trivial (.trans (by kernel_rfl) h)
noncomputable def F_shape_Node_stands : Fn C_shape_Node_stands := ⟨f79, [], ⟨[], [], sbf, bof⟩, [C_shape_Node_list], [true], none, 0, 0, fun _ _ => true, none⟩
theorem o_shape_Node_stands : F_shape_Node_stands.Ok prog := ⟨Is.of (by kernel_rfl) (by kernel_rfl), by kernel_rfl, hint_sb sb_ok bo_ok, trivial, trivial, fun _ => by kernel_rfl⟩
theorem c_shape_Node_stands (N : Nat) : C_shape_Node_stands.Ok prog N := o_shape_Node_stands.give tb_ok hm N N ⟨c_shape_Node_list N, trivial⟩ fun a r s h => by
  exact s.main [] trivial (.trans (by kernel_rfl) h)
noncomputable def F_shape_Node_often : Fn C_shape_Node_often := ⟨f116, [], ⟨[], [], sbf, bof⟩, [], [true], none, 0, 0, fun _ _ => true, none⟩
theorem o_shape_Node_often : F_shape_Node_often.Ok prog := ⟨Is.of (by kernel_rfl) (by kernel_rfl), by kernel_rfl, hint_sb sb_ok bo_ok, trivial, trivial, fun _ => by kernel_rfl⟩
theorem c_shape_Node_often (N : Nat) : C_shape_Node_often.Ok prog N := o_shape_Node_often.give tb_ok hm N N trivial fun a r s h => by
  exact s.main [] trivial (.trans (by kernel_rfl) h)
noncomputable def F_shape_Node_lacks : Fn C_shape_Node_lacks := ⟨f80, [], ⟨[], [], sbf, bof⟩, [C_shape_Node_list, C_shape_Node_often, C_schema_Name, C_pred_Check], [true], none, 0, 0, fun _ _ => true, none⟩
theorem o_shape_Node_lacks : F_shape_Node_lacks.Ok prog := ⟨Is.of (by kernel_rfl) (by kernel_rfl), by kernel_rfl, hint_sb sb_ok bo_ok, trivial, trivial, fun _ => by kernel_rfl⟩
theorem c_shape_Node_lacks (N : Nat) : C_shape_Node_lacks.Ok prog N := o_shape_Node_lacks.give tb_ok hm N N ⟨c_shape_Node_list N, c_shape_Node_often N, c_schema_Name N, c_pred_Check N, trivial⟩ fun a r s h => by
  exact s.main [] trivial (.trans (by kernel_rfl) h)
noncomputable def F_shape_Node_leaf : Fn C_shape_Node_leaf := ⟨f41, [], ⟨[], [], sbf, bof⟩, [], [true], none, 0, 0, fun _ _ => true, none⟩
theorem o_shape_Node_leaf : F_shape_Node_leaf.Ok prog := ⟨Is.of (by kernel_rfl) (by kernel_rfl), by kernel_rfl, hint_sb sb_ok bo_ok, trivial, trivial, fun _ => by kernel_rfl⟩
theorem c_shape_Node_leaf (N : Nat) : C_shape_Node_leaf.Ok prog N := o_shape_Node_leaf.give tb_ok hm N N trivial fun a r s h => by
  exact s.main [] trivial (.trans (by kernel_rfl) h)
noncomputable def F_shape_Node_more : Fn C_shape_Node_more := ⟨f81, [], ⟨[], [], sbf, bof⟩, [C_shape_Node_leaf], [true], none, 0, 0, fun _ _ => true, none⟩
theorem o_shape_Node_more : F_shape_Node_more.Ok prog := ⟨Is.of (by kernel_rfl) (by kernel_rfl), by kernel_rfl, hint_sb sb_ok bo_ok, trivial, trivial, fun _ => by kernel_rfl⟩
theorem c_shape_Node_more (N : Nat) : C_shape_Node_more.Ok prog N := o_shape_Node_more.give tb_ok hm N N ⟨c_shape_Node_leaf N, trivial⟩ fun a r s h => by
  exact s.main [] trivial (.trans (by kernel_rfl) h)
noncomputable def F_shape_Node_kids : Fn C_shape_Node_kids := ⟨f43, [], ⟨[], [], sbf, bof⟩, [C_shape_Node_list], [true], none, 0, 0, fun _ _ => true, none⟩
theorem o_shape_Node_kids : F_shape_Node_kids.Ok prog := ⟨Is.of (by kernel_rfl) (by kernel_rfl), by kernel_rfl, hint_sb sb_ok bo_ok, trivial, trivial, fun _ => by kernel_rfl⟩
theorem c_shape_Node_kids (N : Nat) : C_shape_Node_kids.Ok prog N := o_shape_Node_kids.give tb_ok hm N N ⟨c_shape_Node_list N, trivial⟩ fun a r s h => by
  exact s.main [] trivial (.trans (by kernel_rfl) h)
noncomputable def F_shape_tree : Fn C_shape_tree := ⟨f47, [], ⟨[], [], sbf, bof⟩, [C_shape_Node_stands, C_shape_Node_lacks, C_shape_Node_more, C_shape_Node_kids, C_shape_tree], [true, true], none, 0, 0, fun _ _ => true, none⟩
theorem o_shape_tree : F_shape_tree.Ok prog := ⟨Is.of (by kernel_rfl) (by kernel_rfl), by kernel_rfl, hint_sb sb_ok bo_ok, trivial, trivial, fun _ => by kernel_rfl⟩
theorem cs_shape_tree : ∀ N, C_shape_tree.Ok prog N
  | 0 => ⟨o_shape_tree.is.enters, fun a r h => by (have h : none = some r := h; cases h)⟩
  | N + 1 => by
    obtain h_shape_tree := cs_shape_tree N
    · exact o_shape_tree.give tb_ok hm N (N + 1) ⟨c_shape_Node_stands N, c_shape_Node_lacks N, c_shape_Node_more N, c_shape_Node_kids N, h_shape_tree, trivial⟩ fun a r s h => by
        have l1 := s.loop 1 q_shape_tree_1 (f_shape_tree_1 N) N fun next1 h1 => by
          exact fun c v => s.seg 1 q_shape_tree_1 [(1, .of q_shape_tree_1 next1)] ⟨h1, trivial⟩ (by kernel_rfl) (by kernel_rfl)
        exact s.main [(1, .of q_shape_tree_1 (r_shape_tree_1 N))] ⟨l1, trivial⟩ (.trans (by kernel_rfl) h)
theorem c_shape_tree (N : Nat) : C_shape_tree.Ok prog N := (cs_shape_tree N)
noncomputable def F_shape_Check : Fn C_shape_Check := ⟨f19, [], ⟨[], [], sbf, bof⟩, [C_shape_tree, C_schema_Name, C_shape_Word], [true], none, 0, 0, fun _ _ => true, none⟩
theorem o_shape_Check : F_shape_Check.Ok prog := ⟨Is.of (by kernel_rfl) (by kernel_rfl), by kernel_rfl, hint_sb sb_ok bo_ok, trivial, trivial, fun _ => by kernel_rfl⟩
theorem c_shape_Check (N : Nat) : C_shape_Check.Ok prog N := o_shape_Check.give tb_ok hm N N ⟨c_shape_tree N, c_schema_Name N, c_shape_Word N, trivial⟩ fun a r s h => by
  exact s.main [] trivial (.trans (by kernel_rfl) h)
noncomputable def F_grammar_Parse : Fn C_grammar_Parse := ⟨f9, [], ⟨[], [], sbf, bof⟩, [C_lex_Scan, C_grammar_reader_pattern_v424, C_shape_Check, C_fault_New], [true, false], none, 0, 0, fun _ _ => true, none⟩
theorem o_grammar_Parse : F_grammar_Parse.Ok prog := ⟨Is.of (by kernel_rfl) (by kernel_rfl), by kernel_rfl, hint_sb sb_ok bo_ok, trivial, trivial, fun _ => by kernel_rfl⟩
theorem c_grammar_Parse (N : Nat) : C_grammar_Parse.Ok prog N := o_grammar_Parse.give tb_ok hm N N ⟨c_lex_Scan N, c_grammar_reader_pattern_v424 N, c_shape_Check N, c_fault_New N, trivial⟩ fun a r s h => by
  exact s.main [] trivial (.trans (by kernel_rfl) h)
noncomputable def F_fault_Code_n : Fn C_fault_Code_n := ⟨f14, [], ⟨[], [], sbf, bof⟩, [], [true], none, 0, 0, fun _ _ => true, none⟩
theorem o_fault_Code_n : F_fault_Code_n.Ok prog := ⟨Is.of (by kernel_rfl) (by kernel_rfl), by kernel_rfl, hint_sb sb_ok bo_ok, trivial, trivial, fun _ => by kernel_rfl⟩
theorem c_fault_Code_n (N : Nat) : C_fault_Code_n.Ok prog N := o_fault_Code_n.give tb_ok hm N N trivial fun a r s h => by
  exact s.main [] trivial (.trans (by kernel_rfl) h)
noncomputable def F_fault_At_n : Fn C_fault_At_n := ⟨f15, [], ⟨[], [], sbf, bof⟩, [C_fault_find_n], [true], none, 0, 0, fun _ _ => true, none⟩
theorem o_fault_At_n : F_fault_At_n.Ok prog := ⟨Is.of (by kernel_rfl) (by kernel_rfl), by kernel_rfl, hint_sb sb_ok bo_ok, trivial, trivial, fun _ => by kernel_rfl⟩
theorem c_fault_At_n (N : Nat) : C_fault_At_n.Ok prog N := o_fault_At_n.give tb_ok hm N N ⟨c_fault_find_n N, trivial⟩ fun a r s h => by
  exact s.main [] trivial (.trans (by kernel_rfl) h)
noncomputable def F_pred_bound : Fn C_pred_bound := ⟨f161, [], ⟨[], [], sbf, bof⟩, [], [true], none, 0, 0, fun _ _ => true, none⟩
theorem o_pred_bound : F_pred_bound.Ok prog := ⟨Is.of (by kernel_rfl) (by kernel_rfl), by kernel_rfl, hint_sb sb_ok bo_ok, trivial, trivial, fun _ => by kernel_rfl⟩
theorem c_pred_bound (N : Nat) : C_pred_bound.Ok prog N := o_pred_bound.give tb_ok hm N N trivial fun a r s h => by
  exact s.main [] trivial (.trans (by kernel_rfl) h)
noncomputable def F_lex_Literal : Fn C_lex_Literal := ⟨f77, [], ⟨[], [], sbf, bof⟩, [C_value_Check, C_lex_whole, C_lex_bits, C_lex_text], [true], none, 0, 0, fun _ _ => true, none⟩
theorem o_lex_Literal : F_lex_Literal.Ok prog := ⟨Is.of (by kernel_rfl) (by kernel_rfl), by kernel_rfl, hint_sb sb_ok bo_ok, trivial, trivial, fun _ => by kernel_rfl⟩
theorem c_lex_Literal (N : Nat) : C_lex_Literal.Ok prog N := o_lex_Literal.give tb_ok hm N N ⟨c_value_Check N, c_lex_whole N, c_lex_bits N, c_lex_text N, trivial⟩ fun a r s h => by
  exact s.main [] trivial (.trans (by kernel_rfl) h)
noncomputable def F_pred_printer_tree_v501 : Fn C_pred_printer_tree_v501 := ⟨f111, [], ⟨[], [], sbf, bof⟩, [C_pred_printer_two_v304, C_pred_printer_within_v996, C_compare_Sign, C_lex_Literal], [true], none, 1, 0, fun _ _ => true, none⟩
theorem o_pred_printer_tree_v501 : F_pred_printer_tree_v501.Ok prog := ⟨Is.of (by kernel_rfl) (by kernel_rfl), by kernel_rfl, hint_sb sb_ok bo_ok, trivial, trivial, fun _ => by kernel_rfl⟩
noncomputable def F_pred_printer_two_v304 : Fn C_pred_printer_two_v304 := ⟨f141, [], ⟨[], [], sbf, bof⟩, [C_pred_printer_within_v996], [true], none, 1, 0, fun _ _ => true, none⟩
theorem o_pred_printer_two_v304 : F_pred_printer_two_v304.Ok prog := ⟨Is.of (by kernel_rfl) (by kernel_rfl), by kernel_rfl, hint_sb sb_ok bo_ok, trivial, trivial, fun _ => by kernel_rfl⟩
noncomputable def F_pred_printer_within_v996 : Fn C_pred_printer_within_v996 := ⟨f142, [], ⟨[], [], sbf, bof⟩, [C_pred_bound, C_pred_printer_tree_v501], [true], none, 1, 0, fun _ _ => true, none⟩
theorem o_pred_printer_within_v996 : F_pred_printer_within_v996.Ok prog := ⟨Is.of (by kernel_rfl) (by kernel_rfl), by kernel_rfl, hint_sb sb_ok bo_ok, trivial, trivial, fun _ => by kernel_rfl⟩
theorem cs_pred_printer_tree_v501 : ∀ N, C_pred_printer_tree_v501.Ok prog N ∧ C_pred_printer_two_v304.Ok prog N ∧ C_pred_printer_within_v996.Ok prog N
  | 0 => ⟨⟨o_pred_printer_tree_v501.is.enters, fun a r h => by (have h : none = some r := h; cases h)⟩, ⟨o_pred_printer_two_v304.is.enters, fun a r h => by (have h : none = some r := h; cases h)⟩, ⟨o_pred_printer_within_v996.is.enters, fun a r h => by (have h : none = some r := h; cases h)⟩⟩
  | N + 1 => by
    obtain ⟨h_pred_printer_tree_v501, h_pred_printer_two_v304, h_pred_printer_within_v996⟩ := cs_pred_printer_tree_v501 N
    refine ⟨?_, ?_, ?_⟩
    · exact o_pred_printer_tree_v501.give tb_ok hm N (N + 1) ⟨h_pred_printer_two_v304, h_pred_printer_within_v996, c_compare_Sign N, c_lex_Literal N, trivial⟩ fun a r s h => by
        exact s.main [] trivial (.trans (by kernel_rfl) h)
    · exact o_pred_printer_two_v304.give tb_ok hm N (N + 1) ⟨h_pred_printer_within_v996, trivial⟩ fun a r s h => by
        exact s.main [] trivial (.trans (by kernel_rfl) h)
    · exact o_pred_printer_within_v996.give tb_ok hm N (N + 1) ⟨c_pred_bound N, h_pred_printer_tree_v501, trivial⟩ fun a r s h => by
        exact s.main [] trivial (.trans (by kernel_rfl) h)
theorem c_pred_printer_tree_v501 (N : Nat) : C_pred_printer_tree_v501.Ok prog N := (cs_pred_printer_tree_v501 N).1
noncomputable def F_pred_Print : Fn C_pred_Print := ⟨f75, [], ⟨[], [], sbf, bof⟩, [C_pred_Check, C_pred_printer_tree_v501], [true], none, 0, 0, fun _ _ => true, none⟩
theorem o_pred_Print : F_pred_Print.Ok prog := ⟨Is.of (by kernel_rfl) (by kernel_rfl), by kernel_rfl, hint_sb sb_ok bo_ok, trivial, trivial, fun _ => by kernel_rfl⟩
theorem c_pred_Print (N : Nat) : C_pred_Print.Ok prog N := o_pred_Print.give tb_ok hm N N ⟨c_pred_Check N, c_pred_printer_tree_v501 N, trivial⟩ fun a r s h => by
  exact s.main [] trivial (.trans (by kernel_rfl) h)
noncomputable def F_shape_Node_text : Fn C_shape_Node_text := ⟨f42, [], ⟨[], [], sbf, bof⟩, [C_pred_Print], [true], none, 0, 0, fun _ _ => true, none⟩
theorem o_shape_Node_text : F_shape_Node_text.Ok prog := ⟨Is.of (by kernel_rfl) (by kernel_rfl), by kernel_rfl, hint_sb sb_ok bo_ok, trivial, trivial, fun _ => by kernel_rfl⟩
theorem c_shape_Node_text (N : Nat) : C_shape_Node_text.Ok prog N := o_shape_Node_text.give tb_ok hm N N ⟨c_pred_Print N, trivial⟩ fun a r s h => by
  exact s.main [] trivial (.trans (by kernel_rfl) h)
end
end Go.Proofs.YtahklhniofiofaaGreatDoor.D
namespace Go.Proofs.YtahklhniofiofaaGreatDoor.D
open Go
open Go.Proofs.Tryz
set_option maxRecDepth 1000000
set_option linter.unusedSimpArgs false
set_option linter.unusedVariables false
noncomputable section
noncomputable def F_shape_digits : Fn C_shape_digits := ⟨f45, [], ⟨[], [], sbf, bof⟩, [C_value_OfInt, C_lex_Literal], [true], none, 0, 0, fun _ _ => true, none⟩
theorem o_shape_digits : F_shape_digits.Ok prog := ⟨Is.of (by kernel_rfl) (by kernel_rfl), by kernel_rfl, hint_sb sb_ok bo_ok, trivial, trivial, fun _ => by kernel_rfl⟩
theorem c_shape_digits (N : Nat) : C_shape_digits.Ok prog N := o_shape_digits.give tb_ok hm N N ⟨c_value_OfInt N, c_lex_Literal N, trivial⟩ fun a r s h => by
  exact s.main [] trivial (.trans (by kernel_rfl) h)
noncomputable def F_shape_Node_times : Fn C_shape_Node_times := ⟨f44, [], ⟨[], [], sbf, bof⟩, [C_shape_digits], [true], none, 0, 0, fun _ _ => true, none⟩
theorem o_shape_Node_times : F_shape_Node_times.Ok prog := ⟨Is.of (by kernel_rfl) (by kernel_rfl), by kernel_rfl, hint_sb sb_ok bo_ok, trivial, trivial, fun _ => by kernel_rfl⟩
theorem c_shape_Node_times (N : Nat) : C_shape_Node_times.Ok prog N := o_shape_Node_times.give tb_ok hm N N ⟨c_shape_digits N, trivial⟩ fun a r s h => by
  exact s.main [] trivial (.trans (by kernel_rfl) h)
noncomputable def F_shape_Print_L1_v949 : Fn C_shape_Print_L1_v949 := ⟨f40, [], ⟨[], [], sbf, bof⟩, [C_shape_Node_leaf, C_shape_Node_text, C_shape_Print_L1_v949, C_shape_Node_kids, C_shape_Node_times], [true], none, 3, 0, fun _ _ => true, none⟩
theorem o_shape_Print_L1_v949 : F_shape_Print_L1_v949.Ok prog := ⟨Is.of (by kernel_rfl) (by kernel_rfl), by kernel_rfl, hint_sb sb_ok bo_ok, trivial, trivial, fun _ => by kernel_rfl⟩
theorem cs_shape_Print_L1_v949 : ∀ N, C_shape_Print_L1_v949.Ok prog N
  | 0 => ⟨o_shape_Print_L1_v949.is.enters, fun a r h => by (have h : none = some r := h; cases h)⟩
  | N + 1 => by
    obtain h_shape_Print_L1_v949 := cs_shape_Print_L1_v949 N
    · exact o_shape_Print_L1_v949.give tb_ok hm N (N + 1) ⟨c_shape_Node_leaf N, c_shape_Node_text N, h_shape_Print_L1_v949, c_shape_Node_kids N, c_shape_Node_times N, trivial⟩ fun a r s h => by
        have l0 := s.loop 0 q_shape_Print_L1_v949_0 (f_shape_Print_L1_v949_0 N) N fun next0 h0 => by
          exact fun c v => s.seg 0 q_shape_Print_L1_v949_0 [(0, .of q_shape_Print_L1_v949_0 next0)] ⟨h0, trivial⟩ (by kernel_rfl) (by kernel_rfl)
        exact s.main [(0, .of q_shape_Print_L1_v949_0 (r_shape_Print_L1_v949_0 N))] ⟨l0, trivial⟩ (.trans (by kernel_rfl) h)
theorem c_shape_Print_L1_v949 (N : Nat) : C_shape_Print_L1_v949.Ok prog N := (cs_shape_Print_L1_v949 N)
noncomputable def F_shape_Print : Fn C_shape_Print := ⟨f18, [], ⟨[], [], sbf, bof⟩, [C_shape_Check, C_shape_Print_L1_v949, C_shape_digits, C_shape_Word], [true], none, 0, 0, fun _ _ => true, some EqR.bytes⟩
theorem o_shape_Print : F_shape_Print.Ok prog := ⟨Is.of (by kernel_rfl) (by kernel_rfl), by kernel_rfl, hint_sb sb_ok bo_ok, trivial, trivial, fun _ => by kernel_rfl⟩
theorem c_shape_Print (N : Nat) : C_shape_Print.Ok prog N := o_shape_Print.give tb_ok hm N N ⟨c_shape_Check N, c_shape_Print_L1_v949 N, c_shape_digits N, c_shape_Word N, trivial⟩ fun a r s h => by
  exact s.main [] trivial (.trans (by kernel_rfl) h)
noncomputable def F_fault_Code_f : Fn C_fault_Code_f := ⟨f14, [], ⟨[], [], sbf, bof⟩, [C_fault_find_f], [true], none, 0, 0, fun _ _ => true, none⟩
theorem o_fault_Code_f : F_fault_Code_f.Ok prog := ⟨Is.of (by kernel_rfl) (by kernel_rfl), by kernel_rfl, hint_sb sb_ok bo_ok, trivial, trivial, fun _ => by kernel_rfl⟩
theorem c_fault_Code_f (N : Nat) : C_fault_Code_f.Ok prog N := o_fault_Code_f.give tb_ok hm N N ⟨c_fault_find_f N, trivial⟩ fun a r s h => by
  exact s.main [] trivial (.trans (by kernel_rfl) h)
noncomputable def F_fault_At_f : Fn C_fault_At_f := ⟨f15, [], ⟨[], [], sbf, bof⟩, [C_fault_find_f], [true], none, 0, 0, fun _ _ => true, none⟩
theorem o_fault_At_f : F_fault_At_f.Ok prog := ⟨Is.of (by kernel_rfl) (by kernel_rfl), by kernel_rfl, hint_sb sb_ok bo_ok, trivial, trivial, fun _ => by kernel_rfl⟩
theorem c_fault_At_f (N : Nat) : C_fault_At_f.Ok prog N := o_fault_At_f.give tb_ok hm N N ⟨c_fault_find_f N, trivial⟩ fun a r s h => by
  exact s.main [] trivial (.trans (by kernel_rfl) h)
noncomputable def F_law14_awake : Fn C_law14_awake := ⟨f8, [], ⟨[], [], sbf, bof⟩, [C_grammar_Parse, C_shape_Print, C_fault_Code_n, C_fault_At_n, C_fault_Code_f, C_fault_At_f], [true], none, 0, 0, fun _ _ => true, none⟩
theorem o_law14_awake : F_law14_awake.Ok prog := ⟨Is.of (by kernel_rfl) (by kernel_rfl), by kernel_rfl, hint_sb sb_ok bo_ok, trivial, trivial, fun _ => by kernel_rfl⟩
theorem c_law14_awake (N : Nat) : C_law14_awake.Ok prog N := o_law14_awake.give tb_ok hm N N ⟨c_grammar_Parse N, c_shape_Print N, c_fault_Code_n N, c_fault_At_n N, c_fault_Code_f N, c_fault_At_f N, trivial⟩ fun a r s h => by
  have h : (bif Nat.ble 300 N then some true else none) = some r := h
  cases hb : Nat.ble 300 N with
  | false => rw [hb] at h; cases h
  | true =>
    have hl := Nat.le_of_ble_eq_true hb
    obtain ⟨n, rfl⟩ : ∃ n, N = n + 300 := ⟨N - 300, by omega⟩
    exact s.main [] trivial (.trans (by kernel_rfl) h)
noncomputable def F_law14_GrammarDeep : Fn C_law14_GrammarDeep := ⟨f4, [], ⟨[], [], sbf, bof⟩, [C_grammar_Parse, C_fault_Code_n, C_fault_At_n, C_law14_awake, C_fault_Code_f, C_fault_At_f], [true], none, 0, 0, fun _ _ => true, none⟩
theorem o_law14_GrammarDeep : F_law14_GrammarDeep.Ok prog := ⟨Is.of (by kernel_rfl) (by kernel_rfl), by kernel_rfl, hint_sb sb_ok bo_ok, trivial, trivial, fun _ => by kernel_rfl⟩
theorem c_law14_GrammarDeep (N : Nat) : C_law14_GrammarDeep.Ok prog N := o_law14_GrammarDeep.give tb_ok hm N N ⟨c_grammar_Parse N, c_fault_Code_n N, c_fault_At_n N, c_law14_awake N, c_fault_Code_f N, c_fault_At_f N, trivial⟩ fun a r s h => by
  have l2 := s.loop 2 q_law14_GrammarDeep_2 (f_law14_GrammarDeep_2 N) N fun next2 h2 => by
    exact fun c v => s.seg 2 q_law14_GrammarDeep_2 [(2, .of q_law14_GrammarDeep_2 next2)] ⟨h2, trivial⟩ (by kernel_rfl) (by kernel_rfl)
  have l0 := s.loop 0 q_law14_GrammarDeep_0 (f_law14_GrammarDeep_0 N) N fun next0 h0 => by
    exact fun c v => s.seg 0 q_law14_GrammarDeep_0 [(0, .of q_law14_GrammarDeep_0 next0), (2, .of q_law14_GrammarDeep_2 (r_law14_GrammarDeep_2 N))] ⟨h0, l2, trivial⟩ (by kernel_rfl) (by kernel_rfl)
  exact s.main [(0, .of q_law14_GrammarDeep_0 (r_law14_GrammarDeep_0 N))] ⟨l0, trivial⟩ (.trans (by kernel_rfl) h)
end
end Go.Proofs.YtahklhniofiofaaGreatDoor.D
namespace Go.Proofs.YtahklhniofiofaaGreatDoor.D
open Go
open Go.Proofs.Tryz
set_option maxRecDepth 1000000
set_option linter.unusedSimpArgs false
set_option linter.unusedVariables false
noncomputable section
end
end Go.Proofs.YtahklhniofiofaaGreatDoor.D
namespace Go.Proofs.YtahklhniofiofaaGreatDoor.D
open Go
open Go.Proofs.Tryz
set_option maxRecDepth 1000000
set_option linter.unusedSimpArgs false
set_option linter.unusedVariables false
noncomputable section
end
end Go.Proofs.YtahklhniofiofaaGreatDoor.D
namespace Go.Proofs.YtahklhniofiofaaGreatDoor.D
open Go
open Go.Proofs.Tryz
set_option maxRecDepth 1000000
set_option linter.unusedSimpArgs false
set_option linter.unusedVariables false
noncomputable section
end
end Go.Proofs.YtahklhniofiofaaGreatDoor.D
