/- slices.Clone. No premise beyond what each theorem says. -/
import Derived.Test.YtmjmbhkohcdlpaaDoorWA3
set_option linter.all false
set_option linter.unusedSimpArgs false
set_option linter.unusedVariables false
namespace Go.Proofs.YtmjmbhkohcdlpaaDoor.W
open Go

def cloneSC (te tb k by_ : Nat) : SC :=
  .seq (.ops false [.op (some 2) (.mov (.c .emp))]) (.seq (.seq (.ops false [.op (some 3) (.mov (.t 0)), .op (some 4) (.raw (.binOp .eql te (.tmp 3) (.const (.slice none 0 0)) te) tb)]) (.cond (.t 4) (.seq (.ops false [.op (some 2) (.mov (.c .emp))]) .ret) .skip))
    (.seq (.ops false [.op (some 5) (.bsl k []), .op (some 6) (.mov (.t 0)), .op (some 7) (.app k by_ (.t 5) (.t 6)), .op (some 2) (.mov (.t 7))]) .ret))

theorem clone_go {X : Ctx} {te tb k by_ e : Nat} {xs : List AV} (hres : X.res = [.t 2]) (hu : X.P.underlying te = some (.slice e)) (hl : xs.length * by_ ≤ 140737488355328) (hl2 : xs.length ≤ 9223372036854775807)
    (h1 : xs = [] → X.Q (.ret .emp) ⟨[], []⟩) (h2 : X.Q (.ret (.own 1)) ⟨[], [.dead, .live k xs]⟩) :
    go X [.c (cloneSC te tb k by_)] [.sl k xs, .any, .any, .any, .any, .any, .any, .any] ⟨[], []⟩ := by
  refine run_go 9 _ _ _ _ ?_
  show vraw X false (some 4) (.raw (.binOp .eql te (.tmp 3) (.const (.slice none 0 0)) te) tb) [] _ [.sl k xs, .any, .emp, .sl k xs, .any, .any, .any, .any] ⟨[], []⟩
  refine vraw_alt (osn_nil (ne := false) (e := e) (k := k) (xs := xs) rfl hu rfl) (fun hx => ?_) (fun _ => ?_)
  · refine run_go 8 _ _ _ _ ?_
    refine ⟨fun _ => ?_, fun h => by cases h⟩
    show kRet X _ (resV _ _ X.res)
    rw [hres]
    exact ⟨trivial, h1 hx⟩
  · refine run_go 14 _ _ _ _ ?_
    refine ⟨fun h => (by cases h), fun _ => ?_⟩
    have hs : ∀ A : AH, srcV A k (.sl k xs) = some xs := fun A => by simp [srcV]
    refine ⟨trivial, rfl, ?_⟩
    show kAppS _ _ _ _ k by_ [] _ (srcV _ k (.sl k xs))
    rw [hs]
    refine ⟨by simpa using hl, by simpa using hl2, ?_⟩
    show kRet X _ (resV _ _ X.res)
    rw [hres]
    exact ⟨trivial, h2⟩

section
variable {T : Nat → Type} {B : Tb T}

theorem clone_is {P : Program} {f : FuncId} {fn : Func} (hf : P.funcs[f]? = some fn) (h : isOk P fn = true) : Is P f fn.ntmps (resOf P fn) (bd P fn) := Is.of hf h

/-- What a function must be to be slices.Clone. -/
structure CloneIs (P : Program) (f : FuncId) (te tb k by_ e : Nat) : Prop where
  is : Is P f 8 [.t 2] (cloneSC te tb k by_)
  un : P.underlying te = some (.slice e)
  by0 : 0 < by_

theorem CloneIs.of {P : Program} {f : FuncId} {te tb k by_ e : Nat} {fn : Func} (hf : P.funcs[f]? = some fn) (h : isOk P fn = true) (h1 : fn.ntmps = 8) (h2 : resOf P fn = [.t 2]) (h3 : bd P fn = cloneSC te tb k by_) (hu : P.underlying te = some (.slice e)) (h0 : 0 < by_) : CloneIs P f te tb k by_ e :=
  ⟨by have := Is.of hf h; rw [h1, h2, h3] at this; exact this, hu, h0⟩

theorem clone_cres {P : Program} {f : FuncId} {te tb k by_ e : Nat} (hi : CloneIs P f te tb k by_ e) (hm : P.follows .mixedOrders = true) {xs : List AV} (hl : xs.length * by_ ≤ 140737488355328) :
    CRes P f [.sl k xs] ⟨[], []⟩ (.ret (.own 0)) ⟨[], [.live k xs]⟩ := by
  obtain ⟨fn, cd, wr, h1, h2, h3, h4, h5, h6⟩ := hi.is.prf
  have hl2 : xs.length ≤ 9223372036854775807 := by
    have := Nat.le_mul_of_pos_right xs.length hi.by0; omega
  refine cres_of 8 h1 h2 h3 h4 hm h5 ?_
  refine clone_go rfl hi.un hl hl2 (fun hx => ?_) ?_
  · subst hx
    exact .inr ⟨rfl, k, [], [], [0], rfl, rfl, ⟨trivial, ⟨by simp [frzH], by simp [leBuf, frzH, List.getD], trivial⟩, rfl, rfl⟩, by simp [leE, le2, le1, leC, leA]⟩
  · exact .inl ⟨[], [], [1], rfl, rfl, ⟨trivial, ⟨by simp [frzH], by simp [leBuf, frzH, List.getD], trivial⟩, rfl, rfl⟩, by simp [leE, le2, le1, leC, leA]⟩

theorem clone_cresD {P : Program} {f : FuncId} {te tb k by_ e : Nat} (hi : CloneIs P f te tb k by_ e) (hm : P.follows .mixedOrders = true) {xs : List AV} (hl : xs.length * by_ ≤ 140737488355328) :
    CRes P f [.sl k xs] .nil (.ret (.sl k xs)) .nil := by
  obtain ⟨fn, cd, wr, h1, h2, h3, h4, h5, h6⟩ := hi.is.prf
  have hl2 : xs.length ≤ 9223372036854775807 := by
    have := Nat.le_mul_of_pos_right xs.length hi.by0; omega
  refine cres_of 8 h1 h2 h3 h4 hm h5 ?_
  refine clone_go rfl hi.un hl hl2 (fun hx => ?_) ?_
  · subst hx
    exact .inl ⟨[], [], [], rfl, rfl, ⟨trivial, trivial, rfl, rfl⟩, by simp [leE, le2, le1, leC, leA]⟩
  · exact .inl ⟨[1], [], [], rfl, rfl, ⟨trivial, trivial, rfl, rfl⟩, by simp [leE, le2, le1, leC, leA, frzH, frzT, frzB, List.getD]⟩

/-- What a copy answers. -/
def shClone {α : Type} (by_ : Nat) (s : List α) : Option (List α) := gd (Nat.ble ((0 + s.length) * by_) 140737488355328) (some s)

theorem shClone_some {α : Type} {by_ : Nat} {s r : List α} (h : shClone by_ s = some r) : s.length * by_ ≤ 140737488355328 ∧ r = s := by
  obtain ⟨h1, h2⟩ := gd_some h
  cases h2
  have := Nat.le_of_ble_eq_true h1
  exact ⟨by simpa using this, rfl⟩

theorem clone_ok {P : Program} {f : FuncId} {te tb by_ e i : Nat} (hi : CloneIs P f te tb (B.k i) by_ e) (hm : P.follows .mixedOrders = true) (N : Nat) : (Con.clone (B := B) f i (fun _ s => shClone by_ s)).Ok P N := by
  refine ⟨hi.is.enters, fun a r h => ?_⟩
  obtain ⟨h1, rfl⟩ := shClone_some h
  have := clone_cres hi hm (xs := a.1.map (B.eA i)) (by simpa using h1)
  simpa only [Con.clone, Con.m, PL.o, Pat.r, PX.n, PU.n, PU.l, Out.m, Pat.own, BV.avs, BV.av, BH.av, List.map_nil, List.map_cons, BB.av] using this
theorem cloneD_ok {P : Program} {f : FuncId} {te tb by_ e i : Nat} (hi : CloneIs P f te tb (B.k i) by_ e) (hm : P.follows .mixedOrders = true) (N : Nat) : (Con.cloneD (B := B) f i (fun _ s => shClone by_ s)).Ok P N := by
  refine ⟨hi.is.enters, fun a r h => ?_⟩
  obtain ⟨h1, rfl⟩ := shClone_some h
  have := clone_cresD hi hm (xs := List.map (B.eA i) (show List (T i) from r)) (by rw [List.length_map]; exact h1)
  simpa only [Con.cloneD, Con.p, PL.o, Pat.r, Out.p, BV.avs, BV.av, BH.av, List.map_nil, AH.nil] using this

end
end Go.Proofs.YtmjmbhkohcdlpaaDoor.W
namespace Go.Proofs.YtmjmbhkohcdlpaaDoor.W
open Go

/-- What holds if all fuel is great enough. -/
class Lim (ι : Type) where
  ev : (ι → Prop) → Prop
  mono : ∀ {P Q : ι → Prop}, (∀ i, P i → Q i) → ev P → ev Q
  and : ∀ {P Q : ι → Prop}, ev P → ev Q → ev fun i => P i ∧ Q i
  all : ∀ {P : ι → Prop}, (∀ i, P i) → ev P
  ex : ∀ {P : ι → Prop}, ev P → ∃ i, P i

instance : Lim Nat where
  ev P := ∃ K, ∀ N, K ≤ N → P N
  mono h := fun ⟨K, hK⟩ => ⟨K, fun N hN => h N (hK N hN)⟩
  and := fun ⟨K, hK⟩ ⟨L, hL⟩ => ⟨max K L, fun N hN => ⟨hK N (by omega), hL N (by omega)⟩⟩
  all h := ⟨0, fun N _ => h N⟩
  ex := fun ⟨K, hK⟩ => ⟨K, hK K (Nat.le_refl _)⟩

instance {ι : Type} [Lim ι] : Lim (ι × Nat) where
  ev P := ∃ K, Lim.ev fun i : ι => ∀ n, K ≤ n → P (i, n)
  mono h := fun ⟨K, hK⟩ => ⟨K, Lim.mono (fun i hi n hn => h _ (hi n hn)) hK⟩
  and := fun ⟨K, hK⟩ ⟨L, hL⟩ => ⟨max K L, Lim.mono (fun i hi n hn => ⟨hi.1 n (by omega), hi.2 n (by omega)⟩) (Lim.and hK hL)⟩
  all h := ⟨0, Lim.all fun i n _ => h (i, n)⟩
  ex := fun ⟨K, hK⟩ => let ⟨i, hi⟩ := Lim.ex hK; ⟨(i, K), hi K (Nat.le_refl _)⟩

/-- Fuel that grows beyond all bounds. -/
class Tends {ι : Type} [Lim ι] (N : ι → Nat) : Prop where
  to : ∀ K, Lim.ev fun i => K ≤ N i
instance : Tends (fun n : Nat => n) := ⟨fun K => ⟨K, fun _ h => h⟩⟩
instance {ι : Type} [Lim ι] : Tends (fun p : ι × Nat => p.2) := ⟨fun K => ⟨K, Lim.all fun _ _ h => h⟩⟩
instance {ι : Type} [Lim ι] {N : ι → Nat} [h : Tends N] : Tends (fun p : ι × Nat => N p.1) := ⟨fun K => ⟨0, Lim.mono (fun _ hi _ _ => hi) (h.to K)⟩⟩

instance : Tends (fun p : Nat × Nat => p.1) := ⟨fun K => ⟨0, K, fun _ h _ _ => h⟩⟩
instance : Tends (fun p : (Nat × Nat) × Nat => p.1.1) := ⟨fun K => ⟨0, 0, K, fun _ h _ _ _ _ => h⟩⟩
instance : Tends (fun p : ((Nat × Nat) × Nat) × Nat => p.1.1.1) := ⟨fun K => ⟨0, 0, 0, K, fun _ h _ _ _ _ _ _ => h⟩⟩

/-- Tells this, if fuel is enough. -/
def Tl {ι : Type} [Lim ι] {α : Type} (f : ι → Option α) (a : α) : Prop := Lim.ev fun i => f i = some a
/-- Tells something of which this holds, if fuel is enough. -/
def W {ι : Type} [Lim ι] {α : Type} (f : ι → Option α) (Q : α → Prop) : Prop := ∃ a, Tl f a ∧ Q a

section
variable {ι : Type} [Lim ι] {α β : Type}

theorem Tl.uniq {f : ι → Option α} {a b : α} (h : Tl f a) (h' : Tl f b) : a = b := by
  obtain ⟨i, h1, h2⟩ := Lim.ex (Lim.and h h')
  rw [h1] at h2; exact Option.some.inj h2
theorem Tl.w {f : ι → Option α} {a : α} (h : Tl f a) : W f (· = a) := ⟨a, h, rfl⟩
theorem W.tl {f : ι → Option α} {a : α} (h : W f (· = a)) : Tl f a := by obtain ⟨_, h, rfl⟩ := h; exact h
theorem W.mp {f : ι → Option α} {P Q : α → Prop} (h : W f P) (hi : ∀ a, P a → Q a) : W f Q := let ⟨a, h1, h2⟩ := h; ⟨a, h1, hi a h2⟩
theorem W.and {f : ι → Option α} {P Q : α → Prop} (h : W f P) (h' : W f Q) : W f fun a => P a ∧ Q a := by
  obtain ⟨a, h1, h2⟩ := h
  obtain ⟨b, h3, h4⟩ := h'
  obtain rfl := h1.uniq h3
  exact ⟨a, h1, h2, h4⟩

theorem W.ret {a : α} {Q : α → Prop} : W (fun _ : ι => some a) Q ↔ Q a :=
  ⟨fun ⟨b, h, hq⟩ => by obtain ⟨_, h⟩ := Lim.ex h; cases h; exact hq, fun h => ⟨a, Lim.all fun _ => rfl, h⟩⟩
theorem W.none {Q : α → Prop} : W (fun _ : ι => (Option.none : Option α)) Q ↔ False :=
  ⟨fun ⟨b, h, _⟩ => by (obtain ⟨_, h⟩ := Lim.ex h; cases h), fun h => h.elim⟩
theorem W.cond {c : Bool} {f g : ι → Option α} {Q : α → Prop} : W (fun i => bif c then f i else g i) Q ↔ (c = true → W f Q) ∧ (c = false → W g Q) := by
  cases c
  · exact ⟨fun h => ⟨fun h' => by (cases h'), fun _ => h⟩, fun h => h.2 rfl⟩
  · exact ⟨fun h => ⟨fun _ => h, fun h' => by (cases h')⟩, fun h => h.1 rfl⟩
theorem W.gd {c : Bool} {f : ι → Option α} {Q : α → Prop} : W (fun i => gd c (f i)) Q ↔ c = true ∧ W f Q := by
  cases c with
  | true => exact ⟨fun h => ⟨rfl, h⟩, fun h => h.2⟩
  | false =>
    refine ⟨?_, fun h => by cases h.1⟩
    rintro ⟨a, h, _⟩
    obtain ⟨_, h⟩ := Lim.ex h
    cases h
theorem W.obind {x : Option β} {k : ι → β → Option α} {Q : α → Prop} : W (fun i => x.bind (k i)) Q ↔ ∃ a, x = some a ∧ W (fun i => k i a) Q := by
  cases x with
  | none =>
    refine ⟨?_, fun h => by obtain ⟨_, h, _⟩ := h; cases h⟩
    rintro ⟨a, h, _⟩
    obtain ⟨_, h⟩ := Lim.ex h
    cases h
  | some a => exact ⟨fun h => ⟨a, rfl, h⟩, fun h => by obtain ⟨_, h, h'⟩ := h; cases h; exact h'⟩
theorem W.some {b : β} {k : ι → β → Option α} {Q : α → Prop} : W (fun i => (some b : Option β).bind (k i)) Q ↔ W (fun i => k i b) Q := Iff.rfl
theorem W.sum {γ : Type} {x : β ⊕ γ} {f : ι → β → Option α} {g : ι → γ → Option α} {Q : α → Prop} :
    W (fun i => Sum.elim (f i) (g i) x) Q ↔ (∀ b, x = .inl b → W (fun i => f i b) Q) ∧ (∀ b, x = .inr b → W (fun i => g i b) Q) := by
  cases x
  · exact ⟨fun h => ⟨fun _ h' => by (cases h'; exact h), fun _ h' => by (cases h')⟩, fun h => h.1 _ rfl⟩
  · exact ⟨fun h => ⟨fun _ h' => by (cases h'), fun _ h' => by (cases h'; exact h)⟩, fun h => h.2 _ rfl⟩
theorem W.bind {f : ι → Option β} {k : ι → β → Option α} {P : β → Prop} {Q : α → Prop} (h : W f P) (hk : ∀ b, P b → W (fun i => k i b) Q) : W (fun i => (f i).bind (k i)) Q := by
  obtain ⟨b, hb, hp⟩ := h
  obtain ⟨a, ha, hq⟩ := hk b hp
  refine ⟨a, Lim.mono (fun i hi => ?_) (Lim.and hb ha), hq⟩
  obtain ⟨h1, h2⟩ := hi
  show (f i).bind (k i) = _
  rw [h1]; exact h2
theorem W.bindTl {f : ι → Option β} {k : ι → β → Option α} {b : β} {Q : α → Prop} (h : Tl f b) : W (fun i => (f i).bind (k i)) Q ↔ W (fun i => k i b) Q := by
  refine ⟨?_, fun h' => W.bind h.w fun _ e => by subst e; exact h'⟩
  rintro ⟨a, ha, hq⟩
  refine ⟨a, Lim.mono (fun i hi => ?_) (Lim.and h ha), hq⟩
  obtain ⟨h1, h2⟩ := hi
  change (f i).bind (k i) = _ at h2
  rw [h1] at h2; exact h2
theorem W.congr {f g : ι → Option α} {Q : α → Prop} (h : Lim.ev fun i => f i = g i) (h' : W g Q) : W f Q :=
  let ⟨a, ha, hq⟩ := h'; ⟨a, Lim.mono (fun _ hi => hi.1.trans hi.2) (Lim.and h ha), hq⟩
theorem Tl.lift {f : ι → Option α} {b : α} (h : Tl f b) : Tl (fun p : ι × Nat => f p.1) b := ⟨0, Lim.mono (fun _ hi _ _ => hi) h⟩
/-- In a greater world of fuel. -/
theorem W.lift {f : ι → Option α} {Q : α → Prop} (h : W f Q) : W (fun p : ι × Nat => f p.1) Q := let ⟨a, h1, h2⟩ := h; ⟨a, h1.lift, h2⟩
theorem Tl.of {f : Nat → Option α} {b : α} (h : Tl f b) (N : ι → Nat) [hN : Tends N] : Tl (fun i => f (N i)) b := by
  obtain ⟨K, hK⟩ := h
  exact Lim.mono (fun i hi => hK _ hi) (hN.to K)
theorem W.of {f : Nat → Option α} {Q : α → Prop} (h : W f Q) (N : ι → Nat) [hN : Tends N] : W (fun i => f (N i)) Q := let ⟨a, h1, h2⟩ := h; ⟨a, h1.of N, h2⟩
theorem W.call {f : Nat → Option β} {P : β → Prop} (h : W f P) {k : ι → β → Option α} {Q : α → Prop} {N : ι → Nat} [Tends N] (hk : ∀ b, P b → W (fun i => k i b) Q) : W (fun i => (f (N i)).bind (k i)) Q := W.bind (h.of N) hk
theorem W.callTl {f : Nat → Option β} {b : β} (h : Tl f b) {k : ι → β → Option α} {Q : α → Prop} {N : ι → Nat} [Tends N] : W (fun i => (f (N i)).bind (k i)) Q ↔ W (fun i => k i b) Q := W.bindTl (h.of N)

/-- A loop whose state falls by a measure: what is told hangs on the state. -/
theorem W.loopQ {V R : Type} {f : ι → (V → Option R) → V → Option R} (N : ι → Nat) [hN : Tends N] (P : V → Prop) (m : V → Nat) (Q : V → R → Prop)
    (h : ∀ (F : ι × Nat → V → Option R) v, P v → (∀ v', P v' → m v' < m v → W (fun p => F p v') (Q v')) → W (fun p : ι × Nat => f p.1 (F p) v) (Q v)) (v : V) (hv : P v) :
    W (fun i => loopV (f i) (N i) v) (Q v) := by
  have key : ∀ q v, P v → m v = q → W (fun p : ι × Nat => loopV (f p.1) p.2 v) (Q v) := by
    intro q
    induction q using Nat.strongRecOn with
    | ind q ih =>
      intro v hv hq
      obtain ⟨a, ⟨K, hK⟩, ha⟩ := h (fun p => loopV (f p.1) p.2) v hv fun v' hv' hm => ih _ (by omega) v' hv' rfl
      refine ⟨a, ⟨K + 1, Lim.mono (fun i hi n hn => ?_) hK⟩, ha⟩
      obtain ⟨z, rfl⟩ : ∃ z, n = z + 1 := ⟨n - 1, by omega⟩
      exact hi z (by omega)
  obtain ⟨a, ⟨K, hK⟩, ha⟩ := key _ v hv rfl
  exact ⟨a, Lim.mono (fun i hi => hi.1 _ hi.2) (Lim.and hK (hN.to K)), ha⟩
theorem W.loop {V R : Type} {f : ι → (V → Option R) → V → Option R} {Q : R → Prop} (N : ι → Nat) [hN : Tends N] (P : V → Prop) (m : V → Nat)
    (h : ∀ (F : ι × Nat → V → Option R) v, P v → (∀ v', P v' → m v' < m v → W (fun p => F p v') Q) → W (fun p : ι × Nat => f p.1 (F p) v) Q) (v : V) (hv : P v) :
    W (fun i => loopV (f i) (N i) v) Q := W.loopQ N P m (fun _ => Q) h v hv
theorem W.lp1 {α0 R : Type} {f : ι → (α0 → Option R) → α0 → Option R} {Q : R → Prop} (P : α0 → Prop) (m : α0 → Nat) {N : ι → Nat} [Tends N] {u0}
    (hv : P u0) (h : ∀ (F : ι × Nat → α0 → Option R) v0, P v0 → (∀ w0, P w0 → m w0 < m v0 → W (fun p => F p w0) Q) → W (fun p : ι × Nat => f p.1 (F p) v0) Q) :
    W (fun i => lp1 (f i) (N i) u0) Q :=
  W.loop (f := fun i next v => f i (fun u0 => next u0) v) N (fun v => P v) (fun v => m v) (fun F v hp hn => h (fun p u0 => F p u0) (v) hp fun w0 hw hm => hn (w0) hw hm) u0 hv
theorem W.lp2 {α0 α1 R : Type} {f : ι → (α0 → α1 → Option R) → α0 → α1 → Option R} {Q : R → Prop} (P : α0 → α1 → Prop) (m : α0 → α1 → Nat) {N : ι → Nat} [Tends N] {u0 u1}
    (hv : P u0 u1) (h : ∀ (F : ι × Nat → α0 → α1 → Option R) v0 v1, P v0 v1 → (∀ w0 w1, P w0 w1 → m w0 w1 < m v0 v1 → W (fun p => F p w0 w1) Q) → W (fun p : ι × Nat => f p.1 (F p) v0 v1) Q) :
    W (fun i => lp2 (f i) (N i) u0 u1) Q :=
  W.loop (f := fun i next v => f i (fun u0 u1 => next (u0, u1)) v.1 v.2) N (fun v => P v.1 v.2) (fun v => m v.1 v.2) (fun F v hp hn => h (fun p u0 u1 => F p (u0, u1)) (v.1) (v.2) hp fun w0 w1 hw hm => hn (w0, w1) hw hm) (u0, u1) hv
theorem W.lp3 {α0 α1 α2 R : Type} {f : ι → (α0 → α1 → α2 → Option R) → α0 → α1 → α2 → Option R} {Q : R → Prop} (P : α0 → α1 → α2 → Prop) (m : α0 → α1 → α2 → Nat) {N : ι → Nat} [Tends N] {u0 u1 u2}
    (hv : P u0 u1 u2) (h : ∀ (F : ι × Nat → α0 → α1 → α2 → Option R) v0 v1 v2, P v0 v1 v2 → (∀ w0 w1 w2, P w0 w1 w2 → m w0 w1 w2 < m v0 v1 v2 → W (fun p => F p w0 w1 w2) Q) → W (fun p : ι × Nat => f p.1 (F p) v0 v1 v2) Q) :
    W (fun i => lp3 (f i) (N i) u0 u1 u2) Q :=
  W.loop (f := fun i next v => f i (fun u0 u1 u2 => next (u0, u1, u2)) v.1 v.2.1 v.2.2) N (fun v => P v.1 v.2.1 v.2.2) (fun v => m v.1 v.2.1 v.2.2) (fun F v hp hn => h (fun p u0 u1 u2 => F p (u0, u1, u2)) (v.1) (v.2.1) (v.2.2) hp fun w0 w1 w2 hw hm => hn (w0, w1, w2) hw hm) (u0, u1, u2) hv
theorem W.lp4 {α0 α1 α2 α3 R : Type} {f : ι → (α0 → α1 → α2 → α3 → Option R) → α0 → α1 → α2 → α3 → Option R} {Q : R → Prop} (P : α0 → α1 → α2 → α3 → Prop) (m : α0 → α1 → α2 → α3 → Nat) {N : ι → Nat} [Tends N] {u0 u1 u2 u3}
    (hv : P u0 u1 u2 u3) (h : ∀ (F : ι × Nat → α0 → α1 → α2 → α3 → Option R) v0 v1 v2 v3, P v0 v1 v2 v3 → (∀ w0 w1 w2 w3, P w0 w1 w2 w3 → m w0 w1 w2 w3 < m v0 v1 v2 v3 → W (fun p => F p w0 w1 w2 w3) Q) → W (fun p : ι × Nat => f p.1 (F p) v0 v1 v2 v3) Q) :
    W (fun i => lp4 (f i) (N i) u0 u1 u2 u3) Q :=
  W.loop (f := fun i next v => f i (fun u0 u1 u2 u3 => next (u0, u1, u2, u3)) v.1 v.2.1 v.2.2.1 v.2.2.2) N (fun v => P v.1 v.2.1 v.2.2.1 v.2.2.2) (fun v => m v.1 v.2.1 v.2.2.1 v.2.2.2) (fun F v hp hn => h (fun p u0 u1 u2 u3 => F p (u0, u1, u2, u3)) (v.1) (v.2.1) (v.2.2.1) (v.2.2.2) hp fun w0 w1 w2 w3 hw hm => hn (w0, w1, w2, w3) hw hm) (u0, u1, u2, u3) hv
theorem W.lp5 {α0 α1 α2 α3 α4 R : Type} {f : ι → (α0 → α1 → α2 → α3 → α4 → Option R) → α0 → α1 → α2 → α3 → α4 → Option R} {Q : R → Prop} (P : α0 → α1 → α2 → α3 → α4 → Prop) (m : α0 → α1 → α2 → α3 → α4 → Nat) {N : ι → Nat} [Tends N] {u0 u1 u2 u3 u4}
    (hv : P u0 u1 u2 u3 u4) (h : ∀ (F : ι × Nat → α0 → α1 → α2 → α3 → α4 → Option R) v0 v1 v2 v3 v4, P v0 v1 v2 v3 v4 → (∀ w0 w1 w2 w3 w4, P w0 w1 w2 w3 w4 → m w0 w1 w2 w3 w4 < m v0 v1 v2 v3 v4 → W (fun p => F p w0 w1 w2 w3 w4) Q) → W (fun p : ι × Nat => f p.1 (F p) v0 v1 v2 v3 v4) Q) :
    W (fun i => lp5 (f i) (N i) u0 u1 u2 u3 u4) Q :=
  W.loop (f := fun i next v => f i (fun u0 u1 u2 u3 u4 => next (u0, u1, u2, u3, u4)) v.1 v.2.1 v.2.2.1 v.2.2.2.1 v.2.2.2.2) N (fun v => P v.1 v.2.1 v.2.2.1 v.2.2.2.1 v.2.2.2.2) (fun v => m v.1 v.2.1 v.2.2.1 v.2.2.2.1 v.2.2.2.2) (fun F v hp hn => h (fun p u0 u1 u2 u3 u4 => F p (u0, u1, u2, u3, u4)) (v.1) (v.2.1) (v.2.2.1) (v.2.2.2.1) (v.2.2.2.2) hp fun w0 w1 w2 w3 w4 hw hm => hn (w0, w1, w2, w3, w4) hw hm) (u0, u1, u2, u3, u4) hv
theorem W.lp6 {α0 α1 α2 α3 α4 α5 R : Type} {f : ι → (α0 → α1 → α2 → α3 → α4 → α5 → Option R) → α0 → α1 → α2 → α3 → α4 → α5 → Option R} {Q : R → Prop} (P : α0 → α1 → α2 → α3 → α4 → α5 → Prop) (m : α0 → α1 → α2 → α3 → α4 → α5 → Nat) {N : ι → Nat} [Tends N] {u0 u1 u2 u3 u4 u5}
    (hv : P u0 u1 u2 u3 u4 u5) (h : ∀ (F : ι × Nat → α0 → α1 → α2 → α3 → α4 → α5 → Option R) v0 v1 v2 v3 v4 v5, P v0 v1 v2 v3 v4 v5 → (∀ w0 w1 w2 w3 w4 w5, P w0 w1 w2 w3 w4 w5 → m w0 w1 w2 w3 w4 w5 < m v0 v1 v2 v3 v4 v5 → W (fun p => F p w0 w1 w2 w3 w4 w5) Q) → W (fun p : ι × Nat => f p.1 (F p) v0 v1 v2 v3 v4 v5) Q) :
    W (fun i => lp6 (f i) (N i) u0 u1 u2 u3 u4 u5) Q :=
  W.loop (f := fun i next v => f i (fun u0 u1 u2 u3 u4 u5 => next (u0, u1, u2, u3, u4, u5)) v.1 v.2.1 v.2.2.1 v.2.2.2.1 v.2.2.2.2.1 v.2.2.2.2.2) N (fun v => P v.1 v.2.1 v.2.2.1 v.2.2.2.1 v.2.2.2.2.1 v.2.2.2.2.2) (fun v => m v.1 v.2.1 v.2.2.1 v.2.2.2.1 v.2.2.2.2.1 v.2.2.2.2.2) (fun F v hp hn => h (fun p u0 u1 u2 u3 u4 u5 => F p (u0, u1, u2, u3, u4, u5)) (v.1) (v.2.1) (v.2.2.1) (v.2.2.2.1) (v.2.2.2.2.1) (v.2.2.2.2.2) hp fun w0 w1 w2 w3 w4 w5 hw hm => hn (w0, w1, w2, w3, w4, w5) hw hm) (u0, u1, u2, u3, u4, u5) hv
theorem W.lp7 {α0 α1 α2 α3 α4 α5 α6 R : Type} {f : ι → (α0 → α1 → α2 → α3 → α4 → α5 → α6 → Option R) → α0 → α1 → α2 → α3 → α4 → α5 → α6 → Option R} {Q : R → Prop} (P : α0 → α1 → α2 → α3 → α4 → α5 → α6 → Prop) (m : α0 → α1 → α2 → α3 → α4 → α5 → α6 → Nat) {N : ι → Nat} [Tends N] {u0 u1 u2 u3 u4 u5 u6}
    (hv : P u0 u1 u2 u3 u4 u5 u6) (h : ∀ (F : ι × Nat → α0 → α1 → α2 → α3 → α4 → α5 → α6 → Option R) v0 v1 v2 v3 v4 v5 v6, P v0 v1 v2 v3 v4 v5 v6 → (∀ w0 w1 w2 w3 w4 w5 w6, P w0 w1 w2 w3 w4 w5 w6 → m w0 w1 w2 w3 w4 w5 w6 < m v0 v1 v2 v3 v4 v5 v6 → W (fun p => F p w0 w1 w2 w3 w4 w5 w6) Q) → W (fun p : ι × Nat => f p.1 (F p) v0 v1 v2 v3 v4 v5 v6) Q) :
    W (fun i => lp7 (f i) (N i) u0 u1 u2 u3 u4 u5 u6) Q :=
  W.loop (f := fun i next v => f i (fun u0 u1 u2 u3 u4 u5 u6 => next (u0, u1, u2, u3, u4, u5, u6)) v.1 v.2.1 v.2.2.1 v.2.2.2.1 v.2.2.2.2.1 v.2.2.2.2.2.1 v.2.2.2.2.2.2) N (fun v => P v.1 v.2.1 v.2.2.1 v.2.2.2.1 v.2.2.2.2.1 v.2.2.2.2.2.1 v.2.2.2.2.2.2) (fun v => m v.1 v.2.1 v.2.2.1 v.2.2.2.1 v.2.2.2.2.1 v.2.2.2.2.2.1 v.2.2.2.2.2.2) (fun F v hp hn => h (fun p u0 u1 u2 u3 u4 u5 u6 => F p (u0, u1, u2, u3, u4, u5, u6)) (v.1) (v.2.1) (v.2.2.1) (v.2.2.2.1) (v.2.2.2.2.1) (v.2.2.2.2.2.1) (v.2.2.2.2.2.2) hp fun w0 w1 w2 w3 w4 w5 w6 hw hm => hn (w0, w1, w2, w3, w4, w5, w6) hw hm) (u0, u1, u2, u3, u4, u5, u6) hv
theorem W.lp8 {α0 α1 α2 α3 α4 α5 α6 α7 R : Type} {f : ι → (α0 → α1 → α2 → α3 → α4 → α5 → α6 → α7 → Option R) → α0 → α1 → α2 → α3 → α4 → α5 → α6 → α7 → Option R} {Q : R → Prop} (P : α0 → α1 → α2 → α3 → α4 → α5 → α6 → α7 → Prop) (m : α0 → α1 → α2 → α3 → α4 → α5 → α6 → α7 → Nat) {N : ι → Nat} [Tends N] {u0 u1 u2 u3 u4 u5 u6 u7}
    (hv : P u0 u1 u2 u3 u4 u5 u6 u7) (h : ∀ (F : ι × Nat → α0 → α1 → α2 → α3 → α4 → α5 → α6 → α7 → Option R) v0 v1 v2 v3 v4 v5 v6 v7, P v0 v1 v2 v3 v4 v5 v6 v7 → (∀ w0 w1 w2 w3 w4 w5 w6 w7, P w0 w1 w2 w3 w4 w5 w6 w7 → m w0 w1 w2 w3 w4 w5 w6 w7 < m v0 v1 v2 v3 v4 v5 v6 v7 → W (fun p => F p w0 w1 w2 w3 w4 w5 w6 w7) Q) → W (fun p : ι × Nat => f p.1 (F p) v0 v1 v2 v3 v4 v5 v6 v7) Q) :
    W (fun i => lp8 (f i) (N i) u0 u1 u2 u3 u4 u5 u6 u7) Q :=
  W.loop (f := fun i next v => f i (fun u0 u1 u2 u3 u4 u5 u6 u7 => next (u0, u1, u2, u3, u4, u5, u6, u7)) v.1 v.2.1 v.2.2.1 v.2.2.2.1 v.2.2.2.2.1 v.2.2.2.2.2.1 v.2.2.2.2.2.2.1 v.2.2.2.2.2.2.2) N (fun v => P v.1 v.2.1 v.2.2.1 v.2.2.2.1 v.2.2.2.2.1 v.2.2.2.2.2.1 v.2.2.2.2.2.2.1 v.2.2.2.2.2.2.2) (fun v => m v.1 v.2.1 v.2.2.1 v.2.2.2.1 v.2.2.2.2.1 v.2.2.2.2.2.1 v.2.2.2.2.2.2.1 v.2.2.2.2.2.2.2) (fun F v hp hn => h (fun p u0 u1 u2 u3 u4 u5 u6 u7 => F p (u0, u1, u2, u3, u4, u5, u6, u7)) (v.1) (v.2.1) (v.2.2.1) (v.2.2.2.1) (v.2.2.2.2.1) (v.2.2.2.2.2.1) (v.2.2.2.2.2.2.1) (v.2.2.2.2.2.2.2) hp fun w0 w1 w2 w3 w4 w5 w6 w7 hw hm => hn (w0, w1, w2, w3, w4, w5, w6, w7) hw hm) (u0, u1, u2, u3, u4, u5, u6, u7) hv
end

theorem bif_eq {α : Type} (c : Bool) (a b : α) : (bif c then a else b) = if c = true then a else b := by cases c <;> rfl
theorem ix_nat' {α : Type} (l : List α) (i : Nat) : ix l (i : Int) = l[i]? := by simp [ix]
theorem ix_lt {α : Type} {l : List α} {i : Int} (h0 : 0 ≤ i) (h1 : i < l.length) : ∃ e, ix l i = some e ∧ l[i.toNat]? = some e := by
  obtain ⟨n, rfl⟩ := Int.eq_ofNat_of_zero_le h0
  have : n < l.length := by omega
  exact ⟨l[n], by rw [ix_nat']; simp [this], by simp [this]⟩
/-- What is at a place within. -/
theorem W.ix {ι : Type} [Lim ι] {α β : Type} {l : List β} {j : Int} {k : ι → β → Option α} {Q : α → Prop} (h0 : 0 ≤ j) (h1 : j < l.length) (h : ∀ e, ix l j = Option.some e → l[j.toNat]? = Option.some e → W (fun i => k i e) Q) :
    W (fun i => (ix l j).bind (k i)) Q := W.obind.2 (let ⟨e, h2, h3⟩ := ix_lt h0 h1; ⟨e, h2, h e h2 h3⟩)
theorem i64b_eq {n : Int} : i64b n = true ↔ -9223372036854775808 ≤ n ∧ n ≤ 9223372036854775807 := i64b_iff n
theorem ltB_iff {a b : Int} : ltB a b = true ↔ a < b := by rw [ltB_eq]; simp
theorem ltB_not {a b : Int} : ltB a b = false ↔ b ≤ a := by rw [ltB_eq]; simp
theorem leB_not {a b : Int} : leB a b = false ↔ b < a := by rw [leB_eq]; simp
theorem W.clone {ι : Type} [Lim ι] {α β : Type} {z : Nat} {l : List β} {k : ι → List β → Option α} {Q : α → Prop} (h : l.length * z ≤ 140737488355328) : W (fun i => (shClone z l).bind (k i)) Q ↔ W (fun i => k i l) Q := by
  have : shClone z l = Option.some l := by
    unfold shClone
    rw [show Nat.ble ((0 + l.length) * z) 140737488355328 = true from Nat.ble_eq_true_of_le (by rw [Nat.zero_add]; exact h)]; rfl
  rw [this]; exact W.some

end Go.Proofs.YtmjmbhkohcdlpaaDoor.W
namespace Go.Proofs.YtmjmbhkohcdlpaaDoor.W
open Go

theorem gd_true {R : Type} {x : Option R} : gd true x = x := rfl
theorem gd_false {R : Type} {x : Option R} : gd false x = none := rfl
section
variable {ι : Type} [Lim ι]
theorem at_pre {β : Type} {l pre rest : List β} {e : β} (h : l = pre ++ e :: rest) (hb : (l.length : Int) ≤ 9223372036854775807) :
    ltB (pre.length : Int) (l.length : Int) = true ∧ ix l (pre.length : Int) = some e ∧ i64b ((pre.length : Int) + 1) = true ∧ e ∈ l := by
  subst h
  have : ((pre ++ e :: rest).length : Int) = pre.length + 1 + rest.length := by simp; omega
  refine ⟨ltB_iff.2 (by omega), by rw [ix_nat']; simp, i64b_eq.2 (by omega), by simp⟩
theorem ltB_irr (n : Int) : ltB n n = false := ltB_not.2 (Int.le_refl _)
theorem wf1 {β R : Type} {l : List β} {f : ι → (Int → Option R) → Int → Option R} {Q : R → Prop} (P : List β → Prop) {N : ι → Nat} [Tends N] {n : Int}
    (pre : List β) {rest : List β} (hl : l = pre ++ rest) (hi : n = (pre.length : Int)) (hb : (l.length : Int) ≤ 9223372036854775807) (h0 : P pre)
    (step : ∀ (F : ι × Nat → Int → Option R) pre e rest, l = pre ++ e :: rest → ltB (pre.length : Int) (l.length : Int) = true → ix l (pre.length : Int) = some e → i64b ((pre.length : Int) + 1) = true → P pre →
      (P (pre ++ [e]) → W (fun p => F p ((pre.length : Int) + 1)) Q) → W (fun p : ι × Nat => f p.1 (F p) (pre.length : Int)) Q)
    (done : ∀ (F : ι × Nat → Int → Option R), ltB (l.length : Int) (l.length : Int) = false → P l → W (fun p : ι × Nat => f p.1 (F p) (l.length : Int)) Q) :
    W (fun i => lp1 (f i) (N i) n) Q := by
  subst hi
  refine W.lp1 (fun x0 => ∃ pre rest, l = pre ++ rest ∧ x0 = (pre.length : Int) ∧ P pre) (fun x0 => ((l.length : Int) - x0).toNat) ⟨pre, rest, hl, rfl, h0⟩ ?_
  rintro F x0 ⟨pre, rest, hl, rfl, hp⟩ hn
  cases rest with
  | nil =>
    rw [List.append_nil] at hl
    subst hl
    exact done F (ltB_irr _) hp
  | cons e rest =>
    obtain ⟨h1, h2, h3, _⟩ := at_pre hl hb
    refine step F pre e rest hl h1 h2 h3 hp fun  hw => hn _ ⟨pre ++ [e], rest, by rw [hl]; simp, by simp, hw⟩ ?_
    have := ltB_iff.1 h1
    omega
theorem wf2a {β R : Type} {α1 : Type} {l : List β} {f : ι → (Int → α1 → Option R) → Int → α1 → Option R} {Q : R → Prop} (P : List β → α1 → Prop) {N : ι → Nat} [Tends N] {u1 : α1} {n : Int}
    (pre : List β) {rest : List β} (hl : l = pre ++ rest) (hi : n = (pre.length : Int)) (hb : (l.length : Int) ≤ 9223372036854775807) (h0 : P pre u1)
    (step : ∀ (F : ι × Nat → Int → α1 → Option R) pre e rest v1, l = pre ++ e :: rest → ltB (pre.length : Int) (l.length : Int) = true → ix l (pre.length : Int) = some e → i64b ((pre.length : Int) + 1) = true → P pre v1 →
      (∀ w1, P (pre ++ [e]) w1 → W (fun p => F p ((pre.length : Int) + 1) w1) Q) → W (fun p : ι × Nat => f p.1 (F p) (pre.length : Int) v1) Q)
    (done : ∀ (F : ι × Nat → Int → α1 → Option R) v1, ltB (l.length : Int) (l.length : Int) = false → P l v1 → W (fun p : ι × Nat => f p.1 (F p) (l.length : Int) v1) Q) :
    W (fun i => lp2 (f i) (N i) n u1) Q := by
  subst hi
  refine W.lp2 (fun x0 x1 => ∃ pre rest, l = pre ++ rest ∧ x0 = (pre.length : Int) ∧ P pre x1) (fun x0 x1 => ((l.length : Int) - x0).toNat) ⟨pre, rest, hl, rfl, h0⟩ ?_
  rintro F x0 x1 ⟨pre, rest, hl, rfl, hp⟩ hn
  cases rest with
  | nil =>
    rw [List.append_nil] at hl
    subst hl
    exact done F x1 (ltB_irr _) hp
  | cons e rest =>
    obtain ⟨h1, h2, h3, _⟩ := at_pre hl hb
    refine step F pre e rest x1 hl h1 h2 h3 hp fun  w1 hw => hn _ w1 ⟨pre ++ [e], rest, by rw [hl]; simp, by simp, hw⟩ ?_
    have := ltB_iff.1 h1
    omega
theorem wf2z {β R : Type} {α0 : Type} {l : List β} {f : ι → (α0 → Int → Option R) → α0 → Int → Option R} {Q : R → Prop} (P : List β → α0 → Prop) {N : ι → Nat} [Tends N] {u0 : α0} {n : Int}
    (pre : List β) {rest : List β} (hl : l = pre ++ rest) (hi : n = (pre.length : Int)) (hb : (l.length : Int) ≤ 9223372036854775807) (h0 : P pre u0)
    (step : ∀ (F : ι × Nat → α0 → Int → Option R) pre e rest v0, l = pre ++ e :: rest → ltB (pre.length : Int) (l.length : Int) = true → ix l (pre.length : Int) = some e → i64b ((pre.length : Int) + 1) = true → P pre v0 →
      (∀ w0, P (pre ++ [e]) w0 → W (fun p => F p w0 ((pre.length : Int) + 1)) Q) → W (fun p : ι × Nat => f p.1 (F p) v0 (pre.length : Int)) Q)
    (done : ∀ (F : ι × Nat → α0 → Int → Option R) v0, ltB (l.length : Int) (l.length : Int) = false → P l v0 → W (fun p : ι × Nat => f p.1 (F p) v0 (l.length : Int)) Q) :
    W (fun i => lp2 (f i) (N i) u0 n) Q := by
  subst hi
  refine W.lp2 (fun x0 x1 => ∃ pre rest, l = pre ++ rest ∧ x1 = (pre.length : Int) ∧ P pre x0) (fun x0 x1 => ((l.length : Int) - x1).toNat) ⟨pre, rest, hl, rfl, h0⟩ ?_
  rintro F x0 x1 ⟨pre, rest, hl, rfl, hp⟩ hn
  cases rest with
  | nil =>
    rw [List.append_nil] at hl
    subst hl
    exact done F x0 (ltB_irr _) hp
  | cons e rest =>
    obtain ⟨h1, h2, h3, _⟩ := at_pre hl hb
    refine step F pre e rest x0 hl h1 h2 h3 hp fun  w0 hw => hn w0 _ ⟨pre ++ [e], rest, by rw [hl]; simp, by simp, hw⟩ ?_
    have := ltB_iff.1 h1
    omega
theorem wf3a {β R : Type} {α1 α2 : Type} {l : List β} {f : ι → (Int → α1 → α2 → Option R) → Int → α1 → α2 → Option R} {Q : R → Prop} (P : List β → α1 → α2 → Prop) {N : ι → Nat} [Tends N] {u1 : α1} {u2 : α2} {n : Int}
    (pre : List β) {rest : List β} (hl : l = pre ++ rest) (hi : n = (pre.length : Int)) (hb : (l.length : Int) ≤ 9223372036854775807) (h0 : P pre u1 u2)
    (step : ∀ (F : ι × Nat → Int → α1 → α2 → Option R) pre e rest v1 v2, l = pre ++ e :: rest → ltB (pre.length : Int) (l.length : Int) = true → ix l (pre.length : Int) = some e → i64b ((pre.length : Int) + 1) = true → P pre v1 v2 →
      (∀ w1 w2, P (pre ++ [e]) w1 w2 → W (fun p => F p ((pre.length : Int) + 1) w1 w2) Q) → W (fun p : ι × Nat => f p.1 (F p) (pre.length : Int) v1 v2) Q)
    (done : ∀ (F : ι × Nat → Int → α1 → α2 → Option R) v1 v2, ltB (l.length : Int) (l.length : Int) = false → P l v1 v2 → W (fun p : ι × Nat => f p.1 (F p) (l.length : Int) v1 v2) Q) :
    W (fun i => lp3 (f i) (N i) n u1 u2) Q := by
  subst hi
  refine W.lp3 (fun x0 x1 x2 => ∃ pre rest, l = pre ++ rest ∧ x0 = (pre.length : Int) ∧ P pre x1 x2) (fun x0 x1 x2 => ((l.length : Int) - x0).toNat) ⟨pre, rest, hl, rfl, h0⟩ ?_
  rintro F x0 x1 x2 ⟨pre, rest, hl, rfl, hp⟩ hn
  cases rest with
  | nil =>
    rw [List.append_nil] at hl
    subst hl
    exact done F x1 x2 (ltB_irr _) hp
  | cons e rest =>
    obtain ⟨h1, h2, h3, _⟩ := at_pre hl hb
    refine step F pre e rest x1 x2 hl h1 h2 h3 hp fun  w1 w2 hw => hn _ w1 w2 ⟨pre ++ [e], rest, by rw [hl]; simp, by simp, hw⟩ ?_
    have := ltB_iff.1 h1
    omega
theorem wf3z {β R : Type} {α0 α1 : Type} {l : List β} {f : ι → (α0 → α1 → Int → Option R) → α0 → α1 → Int → Option R} {Q : R → Prop} (P : List β → α0 → α1 → Prop) {N : ι → Nat} [Tends N] {u0 : α0} {u1 : α1} {n : Int}
    (pre : List β) {rest : List β} (hl : l = pre ++ rest) (hi : n = (pre.length : Int)) (hb : (l.length : Int) ≤ 9223372036854775807) (h0 : P pre u0 u1)
    (step : ∀ (F : ι × Nat → α0 → α1 → Int → Option R) pre e rest v0 v1, l = pre ++ e :: rest → ltB (pre.length : Int) (l.length : Int) = true → ix l (pre.length : Int) = some e → i64b ((pre.length : Int) + 1) = true → P pre v0 v1 →
      (∀ w0 w1, P (pre ++ [e]) w0 w1 → W (fun p => F p w0 w1 ((pre.length : Int) + 1)) Q) → W (fun p : ι × Nat => f p.1 (F p) v0 v1 (pre.length : Int)) Q)
    (done : ∀ (F : ι × Nat → α0 → α1 → Int → Option R) v0 v1, ltB (l.length : Int) (l.length : Int) = false → P l v0 v1 → W (fun p : ι × Nat => f p.1 (F p) v0 v1 (l.length : Int)) Q) :
    W (fun i => lp3 (f i) (N i) u0 u1 n) Q := by
  subst hi
  refine W.lp3 (fun x0 x1 x2 => ∃ pre rest, l = pre ++ rest ∧ x2 = (pre.length : Int) ∧ P pre x0 x1) (fun x0 x1 x2 => ((l.length : Int) - x2).toNat) ⟨pre, rest, hl, rfl, h0⟩ ?_
  rintro F x0 x1 x2 ⟨pre, rest, hl, rfl, hp⟩ hn
  cases rest with
  | nil =>
    rw [List.append_nil] at hl
    subst hl
    exact done F x0 x1 (ltB_irr _) hp
  | cons e rest =>
    obtain ⟨h1, h2, h3, _⟩ := at_pre hl hb
    refine step F pre e rest x0 x1 hl h1 h2 h3 hp fun  w0 w1 hw => hn w0 w1 _ ⟨pre ++ [e], rest, by rw [hl]; simp, by simp, hw⟩ ?_
    have := ltB_iff.1 h1
    omega
theorem wf4a {β R : Type} {α1 α2 α3 : Type} {l : List β} {f : ι → (Int → α1 → α2 → α3 → Option R) → Int → α1 → α2 → α3 → Option R} {Q : R → Prop} (P : List β → α1 → α2 → α3 → Prop) {N : ι → Nat} [Tends N] {u1 : α1} {u2 : α2} {u3 : α3} {n : Int}
    (pre : List β) {rest : List β} (hl : l = pre ++ rest) (hi : n = (pre.length : Int)) (hb : (l.length : Int) ≤ 9223372036854775807) (h0 : P pre u1 u2 u3)
    (step : ∀ (F : ι × Nat → Int → α1 → α2 → α3 → Option R) pre e rest v1 v2 v3, l = pre ++ e :: rest → ltB (pre.length : Int) (l.length : Int) = true → ix l (pre.length : Int) = some e → i64b ((pre.length : Int) + 1) = true → P pre v1 v2 v3 →
      (∀ w1 w2 w3, P (pre ++ [e]) w1 w2 w3 → W (fun p => F p ((pre.length : Int) + 1) w1 w2 w3) Q) → W (fun p : ι × Nat => f p.1 (F p) (pre.length : Int) v1 v2 v3) Q)
    (done : ∀ (F : ι × Nat → Int → α1 → α2 → α3 → Option R) v1 v2 v3, ltB (l.length : Int) (l.length : Int) = false → P l v1 v2 v3 → W (fun p : ι × Nat => f p.1 (F p) (l.length : Int) v1 v2 v3) Q) :
    W (fun i => lp4 (f i) (N i) n u1 u2 u3) Q := by
  subst hi
  refine W.lp4 (fun x0 x1 x2 x3 => ∃ pre rest, l = pre ++ rest ∧ x0 = (pre.length : Int) ∧ P pre x1 x2 x3) (fun x0 x1 x2 x3 => ((l.length : Int) - x0).toNat) ⟨pre, rest, hl, rfl, h0⟩ ?_
  rintro F x0 x1 x2 x3 ⟨pre, rest, hl, rfl, hp⟩ hn
  cases rest with
  | nil =>
    rw [List.append_nil] at hl
    subst hl
    exact done F x1 x2 x3 (ltB_irr _) hp
  | cons e rest =>
    obtain ⟨h1, h2, h3, _⟩ := at_pre hl hb
    refine step F pre e rest x1 x2 x3 hl h1 h2 h3 hp fun  w1 w2 w3 hw => hn _ w1 w2 w3 ⟨pre ++ [e], rest, by rw [hl]; simp, by simp, hw⟩ ?_
    have := ltB_iff.1 h1
    omega
theorem wf4z {β R : Type} {α0 α1 α2 : Type} {l : List β} {f : ι → (α0 → α1 → α2 → Int → Option R) → α0 → α1 → α2 → Int → Option R} {Q : R → Prop} (P : List β → α0 → α1 → α2 → Prop) {N : ι → Nat} [Tends N] {u0 : α0} {u1 : α1} {u2 : α2} {n : Int}
    (pre : List β) {rest : List β} (hl : l = pre ++ rest) (hi : n = (pre.length : Int)) (hb : (l.length : Int) ≤ 9223372036854775807) (h0 : P pre u0 u1 u2)
    (step : ∀ (F : ι × Nat → α0 → α1 → α2 → Int → Option R) pre e rest v0 v1 v2, l = pre ++ e :: rest → ltB (pre.length : Int) (l.length : Int) = true → ix l (pre.length : Int) = some e → i64b ((pre.length : Int) + 1) = true → P pre v0 v1 v2 →
      (∀ w0 w1 w2, P (pre ++ [e]) w0 w1 w2 → W (fun p => F p w0 w1 w2 ((pre.length : Int) + 1)) Q) → W (fun p : ι × Nat => f p.1 (F p) v0 v1 v2 (pre.length : Int)) Q)
    (done : ∀ (F : ι × Nat → α0 → α1 → α2 → Int → Option R) v0 v1 v2, ltB (l.length : Int) (l.length : Int) = false → P l v0 v1 v2 → W (fun p : ι × Nat => f p.1 (F p) v0 v1 v2 (l.length : Int)) Q) :
    W (fun i => lp4 (f i) (N i) u0 u1 u2 n) Q := by
  subst hi
  refine W.lp4 (fun x0 x1 x2 x3 => ∃ pre rest, l = pre ++ rest ∧ x3 = (pre.length : Int) ∧ P pre x0 x1 x2) (fun x0 x1 x2 x3 => ((l.length : Int) - x3).toNat) ⟨pre, rest, hl, rfl, h0⟩ ?_
  rintro F x0 x1 x2 x3 ⟨pre, rest, hl, rfl, hp⟩ hn
  cases rest with
  | nil =>
    rw [List.append_nil] at hl
    subst hl
    exact done F x0 x1 x2 (ltB_irr _) hp
  | cons e rest =>
    obtain ⟨h1, h2, h3, _⟩ := at_pre hl hb
    refine step F pre e rest x0 x1 x2 hl h1 h2 h3 hp fun  w0 w1 w2 hw => hn w0 w1 w2 _ ⟨pre ++ [e], rest, by rw [hl]; simp, by simp, hw⟩ ?_
    have := ltB_iff.1 h1
    omega
theorem wf5a {β R : Type} {α1 α2 α3 α4 : Type} {l : List β} {f : ι → (Int → α1 → α2 → α3 → α4 → Option R) → Int → α1 → α2 → α3 → α4 → Option R} {Q : R → Prop} (P : List β → α1 → α2 → α3 → α4 → Prop) {N : ι → Nat} [Tends N] {u1 : α1} {u2 : α2} {u3 : α3} {u4 : α4} {n : Int}
    (pre : List β) {rest : List β} (hl : l = pre ++ rest) (hi : n = (pre.length : Int)) (hb : (l.length : Int) ≤ 9223372036854775807) (h0 : P pre u1 u2 u3 u4)
    (step : ∀ (F : ι × Nat → Int → α1 → α2 → α3 → α4 → Option R) pre e rest v1 v2 v3 v4, l = pre ++ e :: rest → ltB (pre.length : Int) (l.length : Int) = true → ix l (pre.length : Int) = some e → i64b ((pre.length : Int) + 1) = true → P pre v1 v2 v3 v4 →
      (∀ w1 w2 w3 w4, P (pre ++ [e]) w1 w2 w3 w4 → W (fun p => F p ((pre.length : Int) + 1) w1 w2 w3 w4) Q) → W (fun p : ι × Nat => f p.1 (F p) (pre.length : Int) v1 v2 v3 v4) Q)
    (done : ∀ (F : ι × Nat → Int → α1 → α2 → α3 → α4 → Option R) v1 v2 v3 v4, ltB (l.length : Int) (l.length : Int) = false → P l v1 v2 v3 v4 → W (fun p : ι × Nat => f p.1 (F p) (l.length : Int) v1 v2 v3 v4) Q) :
    W (fun i => lp5 (f i) (N i) n u1 u2 u3 u4) Q := by
  subst hi
  refine W.lp5 (fun x0 x1 x2 x3 x4 => ∃ pre rest, l = pre ++ rest ∧ x0 = (pre.length : Int) ∧ P pre x1 x2 x3 x4) (fun x0 x1 x2 x3 x4 => ((l.length : Int) - x0).toNat) ⟨pre, rest, hl, rfl, h0⟩ ?_
  rintro F x0 x1 x2 x3 x4 ⟨pre, rest, hl, rfl, hp⟩ hn
  cases rest with
  | nil =>
    rw [List.append_nil] at hl
    subst hl
    exact done F x1 x2 x3 x4 (ltB_irr _) hp
  | cons e rest =>
    obtain ⟨h1, h2, h3, _⟩ := at_pre hl hb
    refine step F pre e rest x1 x2 x3 x4 hl h1 h2 h3 hp fun  w1 w2 w3 w4 hw => hn _ w1 w2 w3 w4 ⟨pre ++ [e], rest, by rw [hl]; simp, by simp, hw⟩ ?_
    have := ltB_iff.1 h1
    omega
theorem wf5z {β R : Type} {α0 α1 α2 α3 : Type} {l : List β} {f : ι → (α0 → α1 → α2 → α3 → Int → Option R) → α0 → α1 → α2 → α3 → Int → Option R} {Q : R → Prop} (P : List β → α0 → α1 → α2 → α3 → Prop) {N : ι → Nat} [Tends N] {u0 : α0} {u1 : α1} {u2 : α2} {u3 : α3} {n : Int}
    (pre : List β) {rest : List β} (hl : l = pre ++ rest) (hi : n = (pre.length : Int)) (hb : (l.length : Int) ≤ 9223372036854775807) (h0 : P pre u0 u1 u2 u3)
    (step : ∀ (F : ι × Nat → α0 → α1 → α2 → α3 → Int → Option R) pre e rest v0 v1 v2 v3, l = pre ++ e :: rest → ltB (pre.length : Int) (l.length : Int) = true → ix l (pre.length : Int) = some e → i64b ((pre.length : Int) + 1) = true → P pre v0 v1 v2 v3 →
      (∀ w0 w1 w2 w3, P (pre ++ [e]) w0 w1 w2 w3 → W (fun p => F p w0 w1 w2 w3 ((pre.length : Int) + 1)) Q) → W (fun p : ι × Nat => f p.1 (F p) v0 v1 v2 v3 (pre.length : Int)) Q)
    (done : ∀ (F : ι × Nat → α0 → α1 → α2 → α3 → Int → Option R) v0 v1 v2 v3, ltB (l.length : Int) (l.length : Int) = false → P l v0 v1 v2 v3 → W (fun p : ι × Nat => f p.1 (F p) v0 v1 v2 v3 (l.length : Int)) Q) :
    W (fun i => lp5 (f i) (N i) u0 u1 u2 u3 n) Q := by
  subst hi
  refine W.lp5 (fun x0 x1 x2 x3 x4 => ∃ pre rest, l = pre ++ rest ∧ x4 = (pre.length : Int) ∧ P pre x0 x1 x2 x3) (fun x0 x1 x2 x3 x4 => ((l.length : Int) - x4).toNat) ⟨pre, rest, hl, rfl, h0⟩ ?_
  rintro F x0 x1 x2 x3 x4 ⟨pre, rest, hl, rfl, hp⟩ hn
  cases rest with
  | nil =>
    rw [List.append_nil] at hl
    subst hl
    exact done F x0 x1 x2 x3 (ltB_irr _) hp
  | cons e rest =>
    obtain ⟨h1, h2, h3, _⟩ := at_pre hl hb
    refine step F pre e rest x0 x1 x2 x3 hl h1 h2 h3 hp fun  w0 w1 w2 w3 hw => hn w0 w1 w2 w3 _ ⟨pre ++ [e], rest, by rw [hl]; simp, by simp, hw⟩ ?_
    have := ltB_iff.1 h1
    omega
theorem wf6a {β R : Type} {α1 α2 α3 α4 α5 : Type} {l : List β} {f : ι → (Int → α1 → α2 → α3 → α4 → α5 → Option R) → Int → α1 → α2 → α3 → α4 → α5 → Option R} {Q : R → Prop} (P : List β → α1 → α2 → α3 → α4 → α5 → Prop) {N : ι → Nat} [Tends N] {u1 : α1} {u2 : α2} {u3 : α3} {u4 : α4} {u5 : α5} {n : Int}
    (pre : List β) {rest : List β} (hl : l = pre ++ rest) (hi : n = (pre.length : Int)) (hb : (l.length : Int) ≤ 9223372036854775807) (h0 : P pre u1 u2 u3 u4 u5)
    (step : ∀ (F : ι × Nat → Int → α1 → α2 → α3 → α4 → α5 → Option R) pre e rest v1 v2 v3 v4 v5, l = pre ++ e :: rest → ltB (pre.length : Int) (l.length : Int) = true → ix l (pre.length : Int) = some e → i64b ((pre.length : Int) + 1) = true → P pre v1 v2 v3 v4 v5 →
      (∀ w1 w2 w3 w4 w5, P (pre ++ [e]) w1 w2 w3 w4 w5 → W (fun p => F p ((pre.length : Int) + 1) w1 w2 w3 w4 w5) Q) → W (fun p : ι × Nat => f p.1 (F p) (pre.length : Int) v1 v2 v3 v4 v5) Q)
    (done : ∀ (F : ι × Nat → Int → α1 → α2 → α3 → α4 → α5 → Option R) v1 v2 v3 v4 v5, ltB (l.length : Int) (l.length : Int) = false → P l v1 v2 v3 v4 v5 → W (fun p : ι × Nat => f p.1 (F p) (l.length : Int) v1 v2 v3 v4 v5) Q) :
    W (fun i => lp6 (f i) (N i) n u1 u2 u3 u4 u5) Q := by
  subst hi
  refine W.lp6 (fun x0 x1 x2 x3 x4 x5 => ∃ pre rest, l = pre ++ rest ∧ x0 = (pre.length : Int) ∧ P pre x1 x2 x3 x4 x5) (fun x0 x1 x2 x3 x4 x5 => ((l.length : Int) - x0).toNat) ⟨pre, rest, hl, rfl, h0⟩ ?_
  rintro F x0 x1 x2 x3 x4 x5 ⟨pre, rest, hl, rfl, hp⟩ hn
  cases rest with
  | nil =>
    rw [List.append_nil] at hl
    subst hl
    exact done F x1 x2 x3 x4 x5 (ltB_irr _) hp
  | cons e rest =>
    obtain ⟨h1, h2, h3, _⟩ := at_pre hl hb
    refine step F pre e rest x1 x2 x3 x4 x5 hl h1 h2 h3 hp fun  w1 w2 w3 w4 w5 hw => hn _ w1 w2 w3 w4 w5 ⟨pre ++ [e], rest, by rw [hl]; simp, by simp, hw⟩ ?_
    have := ltB_iff.1 h1
    omega
theorem wf6z {β R : Type} {α0 α1 α2 α3 α4 : Type} {l : List β} {f : ι → (α0 → α1 → α2 → α3 → α4 → Int → Option R) → α0 → α1 → α2 → α3 → α4 → Int → Option R} {Q : R → Prop} (P : List β → α0 → α1 → α2 → α3 → α4 → Prop) {N : ι → Nat} [Tends N] {u0 : α0} {u1 : α1} {u2 : α2} {u3 : α3} {u4 : α4} {n : Int}
    (pre : List β) {rest : List β} (hl : l = pre ++ rest) (hi : n = (pre.length : Int)) (hb : (l.length : Int) ≤ 9223372036854775807) (h0 : P pre u0 u1 u2 u3 u4)
    (step : ∀ (F : ι × Nat → α0 → α1 → α2 → α3 → α4 → Int → Option R) pre e rest v0 v1 v2 v3 v4, l = pre ++ e :: rest → ltB (pre.length : Int) (l.length : Int) = true → ix l (pre.length : Int) = some e → i64b ((pre.length : Int) + 1) = true → P pre v0 v1 v2 v3 v4 →
      (∀ w0 w1 w2 w3 w4, P (pre ++ [e]) w0 w1 w2 w3 w4 → W (fun p => F p w0 w1 w2 w3 w4 ((pre.length : Int) + 1)) Q) → W (fun p : ι × Nat => f p.1 (F p) v0 v1 v2 v3 v4 (pre.length : Int)) Q)
    (done : ∀ (F : ι × Nat → α0 → α1 → α2 → α3 → α4 → Int → Option R) v0 v1 v2 v3 v4, ltB (l.length : Int) (l.length : Int) = false → P l v0 v1 v2 v3 v4 → W (fun p : ι × Nat => f p.1 (F p) v0 v1 v2 v3 v4 (l.length : Int)) Q) :
    W (fun i => lp6 (f i) (N i) u0 u1 u2 u3 u4 n) Q := by
  subst hi
  refine W.lp6 (fun x0 x1 x2 x3 x4 x5 => ∃ pre rest, l = pre ++ rest ∧ x5 = (pre.length : Int) ∧ P pre x0 x1 x2 x3 x4) (fun x0 x1 x2 x3 x4 x5 => ((l.length : Int) - x5).toNat) ⟨pre, rest, hl, rfl, h0⟩ ?_
  rintro F x0 x1 x2 x3 x4 x5 ⟨pre, rest, hl, rfl, hp⟩ hn
  cases rest with
  | nil =>
    rw [List.append_nil] at hl
    subst hl
    exact done F x0 x1 x2 x3 x4 (ltB_irr _) hp
  | cons e rest =>
    obtain ⟨h1, h2, h3, _⟩ := at_pre hl hb
    refine step F pre e rest x0 x1 x2 x3 x4 hl h1 h2 h3 hp fun  w0 w1 w2 w3 w4 hw => hn w0 w1 w2 w3 w4 _ ⟨pre ++ [e], rest, by rw [hl]; simp, by simp, hw⟩ ?_
    have := ltB_iff.1 h1
    omega
theorem wf7a {β R : Type} {α1 α2 α3 α4 α5 α6 : Type} {l : List β} {f : ι → (Int → α1 → α2 → α3 → α4 → α5 → α6 → Option R) → Int → α1 → α2 → α3 → α4 → α5 → α6 → Option R} {Q : R → Prop} (P : List β → α1 → α2 → α3 → α4 → α5 → α6 → Prop) {N : ι → Nat} [Tends N] {u1 : α1} {u2 : α2} {u3 : α3} {u4 : α4} {u5 : α5} {u6 : α6} {n : Int}
    (pre : List β) {rest : List β} (hl : l = pre ++ rest) (hi : n = (pre.length : Int)) (hb : (l.length : Int) ≤ 9223372036854775807) (h0 : P pre u1 u2 u3 u4 u5 u6)
    (step : ∀ (F : ι × Nat → Int → α1 → α2 → α3 → α4 → α5 → α6 → Option R) pre e rest v1 v2 v3 v4 v5 v6, l = pre ++ e :: rest → ltB (pre.length : Int) (l.length : Int) = true → ix l (pre.length : Int) = some e → i64b ((pre.length : Int) + 1) = true → P pre v1 v2 v3 v4 v5 v6 →
      (∀ w1 w2 w3 w4 w5 w6, P (pre ++ [e]) w1 w2 w3 w4 w5 w6 → W (fun p => F p ((pre.length : Int) + 1) w1 w2 w3 w4 w5 w6) Q) → W (fun p : ι × Nat => f p.1 (F p) (pre.length : Int) v1 v2 v3 v4 v5 v6) Q)
    (done : ∀ (F : ι × Nat → Int → α1 → α2 → α3 → α4 → α5 → α6 → Option R) v1 v2 v3 v4 v5 v6, ltB (l.length : Int) (l.length : Int) = false → P l v1 v2 v3 v4 v5 v6 → W (fun p : ι × Nat => f p.1 (F p) (l.length : Int) v1 v2 v3 v4 v5 v6) Q) :
    W (fun i => lp7 (f i) (N i) n u1 u2 u3 u4 u5 u6) Q := by
  subst hi
  refine W.lp7 (fun x0 x1 x2 x3 x4 x5 x6 => ∃ pre rest, l = pre ++ rest ∧ x0 = (pre.length : Int) ∧ P pre x1 x2 x3 x4 x5 x6) (fun x0 x1 x2 x3 x4 x5 x6 => ((l.length : Int) - x0).toNat) ⟨pre, rest, hl, rfl, h0⟩ ?_
  rintro F x0 x1 x2 x3 x4 x5 x6 ⟨pre, rest, hl, rfl, hp⟩ hn
  cases rest with
  | nil =>
    rw [List.append_nil] at hl
    subst hl
    exact done F x1 x2 x3 x4 x5 x6 (ltB_irr _) hp
  | cons e rest =>
    obtain ⟨h1, h2, h3, _⟩ := at_pre hl hb
    refine step F pre e rest x1 x2 x3 x4 x5 x6 hl h1 h2 h3 hp fun  w1 w2 w3 w4 w5 w6 hw => hn _ w1 w2 w3 w4 w5 w6 ⟨pre ++ [e], rest, by rw [hl]; simp, by simp, hw⟩ ?_
    have := ltB_iff.1 h1
    omega
theorem wf7z {β R : Type} {α0 α1 α2 α3 α4 α5 : Type} {l : List β} {f : ι → (α0 → α1 → α2 → α3 → α4 → α5 → Int → Option R) → α0 → α1 → α2 → α3 → α4 → α5 → Int → Option R} {Q : R → Prop} (P : List β → α0 → α1 → α2 → α3 → α4 → α5 → Prop) {N : ι → Nat} [Tends N] {u0 : α0} {u1 : α1} {u2 : α2} {u3 : α3} {u4 : α4} {u5 : α5} {n : Int}
    (pre : List β) {rest : List β} (hl : l = pre ++ rest) (hi : n = (pre.length : Int)) (hb : (l.length : Int) ≤ 9223372036854775807) (h0 : P pre u0 u1 u2 u3 u4 u5)
    (step : ∀ (F : ι × Nat → α0 → α1 → α2 → α3 → α4 → α5 → Int → Option R) pre e rest v0 v1 v2 v3 v4 v5, l = pre ++ e :: rest → ltB (pre.length : Int) (l.length : Int) = true → ix l (pre.length : Int) = some e → i64b ((pre.length : Int) + 1) = true → P pre v0 v1 v2 v3 v4 v5 →
      (∀ w0 w1 w2 w3 w4 w5, P (pre ++ [e]) w0 w1 w2 w3 w4 w5 → W (fun p => F p w0 w1 w2 w3 w4 w5 ((pre.length : Int) + 1)) Q) → W (fun p : ι × Nat => f p.1 (F p) v0 v1 v2 v3 v4 v5 (pre.length : Int)) Q)
    (done : ∀ (F : ι × Nat → α0 → α1 → α2 → α3 → α4 → α5 → Int → Option R) v0 v1 v2 v3 v4 v5, ltB (l.length : Int) (l.length : Int) = false → P l v0 v1 v2 v3 v4 v5 → W (fun p : ι × Nat => f p.1 (F p) v0 v1 v2 v3 v4 v5 (l.length : Int)) Q) :
    W (fun i => lp7 (f i) (N i) u0 u1 u2 u3 u4 u5 n) Q := by
  subst hi
  refine W.lp7 (fun x0 x1 x2 x3 x4 x5 x6 => ∃ pre rest, l = pre ++ rest ∧ x6 = (pre.length : Int) ∧ P pre x0 x1 x2 x3 x4 x5) (fun x0 x1 x2 x3 x4 x5 x6 => ((l.length : Int) - x6).toNat) ⟨pre, rest, hl, rfl, h0⟩ ?_
  rintro F x0 x1 x2 x3 x4 x5 x6 ⟨pre, rest, hl, rfl, hp⟩ hn
  cases rest with
  | nil =>
    rw [List.append_nil] at hl
    subst hl
    exact done F x0 x1 x2 x3 x4 x5 (ltB_irr _) hp
  | cons e rest =>
    obtain ⟨h1, h2, h3, _⟩ := at_pre hl hb
    refine step F pre e rest x0 x1 x2 x3 x4 x5 hl h1 h2 h3 hp fun  w0 w1 w2 w3 w4 w5 hw => hn w0 w1 w2 w3 w4 w5 _ ⟨pre ++ [e], rest, by rw [hl]; simp, by simp, hw⟩ ?_
    have := ltB_iff.1 h1
    omega
theorem wr1 {β R : Type} {l : List β} {f : ι → (Int → Option R) → Int → Option R} (g : List β → List β → R) {N : ι → Nat} [Tends N] {n : Int}
    (pre : List β) (rest : List β) (hl : l = pre ++ rest) (hi : n = (pre.length : Int)) (hb : (l.length : Int) ≤ 9223372036854775807)
    (step : ∀ (F : ι × Nat → Int → Option R) pre e rest, l = pre ++ e :: rest → ltB (pre.length : Int) (l.length : Int) = true → ix l (pre.length : Int) = some e → i64b ((pre.length : Int) + 1) = true →
      (W (fun p => F p ((pre.length : Int) + 1)) (· = g (pre ++ [e]) rest)) → W (fun p : ι × Nat => f p.1 (F p) (pre.length : Int)) (· = g pre (e :: rest)))
    (done : ∀ (F : ι × Nat → Int → Option R), ltB (l.length : Int) (l.length : Int) = false → W (fun p : ι × Nat => f p.1 (F p) (l.length : Int)) (· = g l [])) :
    W (fun i => lp1 (f i) (N i) n) (· = g pre rest) := by
  subst hi
  have hk : ∀ (pre' : List β) rest', l = pre' ++ rest' → l.take pre'.length = pre' ∧ l.drop pre'.length = rest' := fun pre' rest' h => by subst h; simp
  have key := W.loopQ (f := fun i next v => f i (fun u0 => next u0) v) N (fun v => ∃ pre' rest', l = pre' ++ rest' ∧ v = (pre'.length : Int)) (fun v => ((l.length : Int) - v).toNat)
    (fun v r => r = g (l.take (v).toNat) (l.drop (v).toNat)) (by
      rintro F j ⟨pre', rest', hl', rfl⟩ hn
      obtain ⟨q1, q2⟩ := hk pre' rest' hl'
      simp only [Int.toNat_natCast, q1, q2]
      cases rest' with
      | nil =>
        rw [List.append_nil] at hl'
        subst hl'
        exact done (fun p u0 => F p u0) (ltB_irr _)
      | cons e rest' =>
        obtain ⟨h1, h2, h3, _⟩ := at_pre hl' hb
        refine step (fun p u0 => F p u0) pre' e rest' hl' h1 h2 h3 ?_
        have hl2 : l = (pre' ++ [e]) ++ rest' := by rw [hl']; simp
        obtain ⟨q3, q4⟩ := hk _ _ hl2
        have := hn ((pre'.length : Int) + 1) ⟨pre' ++ [e], rest', hl2, by simp⟩ (by have := ltB_iff.1 h1; first | omega | (simp only; omega))
        have e1 : (((pre'.length : Int) + 1).toNat) = (pre' ++ [e]).length := by simp
        simp only [e1, q3, q4] at this
        exact this) (pre.length : Int) ⟨pre, rest, hl, rfl⟩
  obtain ⟨q1, q2⟩ := hk pre rest hl
  simp only [Int.toNat_natCast, q1, q2] at key
  exact key
theorem wr2a {β R : Type} {α1 : Type} {l : List β} {f : ι → (Int → α1 → Option R) → Int → α1 → Option R} (g : List β → List β → α1 → R) {N : ι → Nat} [Tends N] {u1 : α1} {n : Int}
    (pre : List β) (rest : List β) (hl : l = pre ++ rest) (hi : n = (pre.length : Int)) (hb : (l.length : Int) ≤ 9223372036854775807)
    (step : ∀ (F : ι × Nat → Int → α1 → Option R) pre e rest v1, l = pre ++ e :: rest → ltB (pre.length : Int) (l.length : Int) = true → ix l (pre.length : Int) = some e → i64b ((pre.length : Int) + 1) = true →
      (∀ w1, W (fun p => F p ((pre.length : Int) + 1) w1) (· = g (pre ++ [e]) rest w1)) → W (fun p : ι × Nat => f p.1 (F p) (pre.length : Int) v1) (· = g pre (e :: rest) v1))
    (done : ∀ (F : ι × Nat → Int → α1 → Option R) v1, ltB (l.length : Int) (l.length : Int) = false → W (fun p : ι × Nat => f p.1 (F p) (l.length : Int) v1) (· = g l [] v1)) :
    W (fun i => lp2 (f i) (N i) n u1) (· = g pre rest u1) := by
  subst hi
  have hk : ∀ (pre' : List β) rest', l = pre' ++ rest' → l.take pre'.length = pre' ∧ l.drop pre'.length = rest' := fun pre' rest' h => by subst h; simp
  have key := W.loopQ (f := fun i next v => f i (fun u0 u1 => next (u0, u1)) v.1 v.2) N (fun v => ∃ pre' rest', l = pre' ++ rest' ∧ v.1 = (pre'.length : Int)) (fun v => ((l.length : Int) - v.1).toNat)
    (fun v r => r = g (l.take (v.1).toNat) (l.drop (v.1).toNat) (v.2)) (by
      rintro F ⟨j, v1⟩ ⟨pre', rest', hl', rfl⟩ hn
      obtain ⟨q1, q2⟩ := hk pre' rest' hl'
      simp only [Int.toNat_natCast, q1, q2]
      cases rest' with
      | nil =>
        rw [List.append_nil] at hl'
        subst hl'
        exact done (fun p u0 u1 => F p (u0, u1)) v1 (ltB_irr _)
      | cons e rest' =>
        obtain ⟨h1, h2, h3, _⟩ := at_pre hl' hb
        refine step (fun p u0 u1 => F p (u0, u1)) pre' e rest' v1 hl' h1 h2 h3 fun w1 => ?_
        have hl2 : l = (pre' ++ [e]) ++ rest' := by rw [hl']; simp
        obtain ⟨q3, q4⟩ := hk _ _ hl2
        have := hn (((pre'.length : Int) + 1), w1) ⟨pre' ++ [e], rest', hl2, by simp⟩ (by have := ltB_iff.1 h1; first | omega | (simp only; omega))
        have e1 : (((pre'.length : Int) + 1).toNat) = (pre' ++ [e]).length := by simp
        simp only [e1, q3, q4] at this
        exact this) ((pre.length : Int), u1) ⟨pre, rest, hl, rfl⟩
  obtain ⟨q1, q2⟩ := hk pre rest hl
  simp only [Int.toNat_natCast, q1, q2] at key
  exact key
theorem wr2z {β R : Type} {α0 : Type} {l : List β} {f : ι → (α0 → Int → Option R) → α0 → Int → Option R} (g : List β → List β → α0 → R) {N : ι → Nat} [Tends N] {u0 : α0} {n : Int}
    (pre : List β) (rest : List β) (hl : l = pre ++ rest) (hi : n = (pre.length : Int)) (hb : (l.length : Int) ≤ 9223372036854775807)
    (step : ∀ (F : ι × Nat → α0 → Int → Option R) pre e rest v0, l = pre ++ e :: rest → ltB (pre.length : Int) (l.length : Int) = true → ix l (pre.length : Int) = some e → i64b ((pre.length : Int) + 1) = true →
      (∀ w0, W (fun p => F p w0 ((pre.length : Int) + 1)) (· = g (pre ++ [e]) rest w0)) → W (fun p : ι × Nat => f p.1 (F p) v0 (pre.length : Int)) (· = g pre (e :: rest) v0))
    (done : ∀ (F : ι × Nat → α0 → Int → Option R) v0, ltB (l.length : Int) (l.length : Int) = false → W (fun p : ι × Nat => f p.1 (F p) v0 (l.length : Int)) (· = g l [] v0)) :
    W (fun i => lp2 (f i) (N i) u0 n) (· = g pre rest u0) := by
  subst hi
  have hk : ∀ (pre' : List β) rest', l = pre' ++ rest' → l.take pre'.length = pre' ∧ l.drop pre'.length = rest' := fun pre' rest' h => by subst h; simp
  have key := W.loopQ (f := fun i next v => f i (fun u0 u1 => next (u0, u1)) v.1 v.2) N (fun v => ∃ pre' rest', l = pre' ++ rest' ∧ v.2 = (pre'.length : Int)) (fun v => ((l.length : Int) - v.2).toNat)
    (fun v r => r = g (l.take (v.2).toNat) (l.drop (v.2).toNat) (v.1)) (by
      rintro F ⟨v0, j⟩ ⟨pre', rest', hl', rfl⟩ hn
      obtain ⟨q1, q2⟩ := hk pre' rest' hl'
      simp only [Int.toNat_natCast, q1, q2]
      cases rest' with
      | nil =>
        rw [List.append_nil] at hl'
        subst hl'
        exact done (fun p u0 u1 => F p (u0, u1)) v0 (ltB_irr _)
      | cons e rest' =>
        obtain ⟨h1, h2, h3, _⟩ := at_pre hl' hb
        refine step (fun p u0 u1 => F p (u0, u1)) pre' e rest' v0 hl' h1 h2 h3 fun w0 => ?_
        have hl2 : l = (pre' ++ [e]) ++ rest' := by rw [hl']; simp
        obtain ⟨q3, q4⟩ := hk _ _ hl2
        have := hn (w0, ((pre'.length : Int) + 1)) ⟨pre' ++ [e], rest', hl2, by simp⟩ (by have := ltB_iff.1 h1; first | omega | (simp only; omega))
        have e1 : (((pre'.length : Int) + 1).toNat) = (pre' ++ [e]).length := by simp
        simp only [e1, q3, q4] at this
        exact this) (u0, (pre.length : Int)) ⟨pre, rest, hl, rfl⟩
  obtain ⟨q1, q2⟩ := hk pre rest hl
  simp only [Int.toNat_natCast, q1, q2] at key
  exact key
theorem wr3a {β R : Type} {α1 α2 : Type} {l : List β} {f : ι → (Int → α1 → α2 → Option R) → Int → α1 → α2 → Option R} (g : List β → List β → α1 → α2 → R) {N : ι → Nat} [Tends N] {u1 : α1} {u2 : α2} {n : Int}
    (pre : List β) (rest : List β) (hl : l = pre ++ rest) (hi : n = (pre.length : Int)) (hb : (l.length : Int) ≤ 9223372036854775807)
    (step : ∀ (F : ι × Nat → Int → α1 → α2 → Option R) pre e rest v1 v2, l = pre ++ e :: rest → ltB (pre.length : Int) (l.length : Int) = true → ix l (pre.length : Int) = some e → i64b ((pre.length : Int) + 1) = true →
      (∀ w1 w2, W (fun p => F p ((pre.length : Int) + 1) w1 w2) (· = g (pre ++ [e]) rest w1 w2)) → W (fun p : ι × Nat => f p.1 (F p) (pre.length : Int) v1 v2) (· = g pre (e :: rest) v1 v2))
    (done : ∀ (F : ι × Nat → Int → α1 → α2 → Option R) v1 v2, ltB (l.length : Int) (l.length : Int) = false → W (fun p : ι × Nat => f p.1 (F p) (l.length : Int) v1 v2) (· = g l [] v1 v2)) :
    W (fun i => lp3 (f i) (N i) n u1 u2) (· = g pre rest u1 u2) := by
  subst hi
  have hk : ∀ (pre' : List β) rest', l = pre' ++ rest' → l.take pre'.length = pre' ∧ l.drop pre'.length = rest' := fun pre' rest' h => by subst h; simp
  have key := W.loopQ (f := fun i next v => f i (fun u0 u1 u2 => next (u0, u1, u2)) v.1 v.2.1 v.2.2) N (fun v => ∃ pre' rest', l = pre' ++ rest' ∧ v.1 = (pre'.length : Int)) (fun v => ((l.length : Int) - v.1).toNat)
    (fun v r => r = g (l.take (v.1).toNat) (l.drop (v.1).toNat) (v.2.1) (v.2.2)) (by
      rintro F ⟨j, v1, v2⟩ ⟨pre', rest', hl', rfl⟩ hn
      obtain ⟨q1, q2⟩ := hk pre' rest' hl'
      simp only [Int.toNat_natCast, q1, q2]
      cases rest' with
      | nil =>
        rw [List.append_nil] at hl'
        subst hl'
        exact done (fun p u0 u1 u2 => F p (u0, u1, u2)) v1 v2 (ltB_irr _)
      | cons e rest' =>
        obtain ⟨h1, h2, h3, _⟩ := at_pre hl' hb
        refine step (fun p u0 u1 u2 => F p (u0, u1, u2)) pre' e rest' v1 v2 hl' h1 h2 h3 fun w1 w2 => ?_
        have hl2 : l = (pre' ++ [e]) ++ rest' := by rw [hl']; simp
        obtain ⟨q3, q4⟩ := hk _ _ hl2
        have := hn (((pre'.length : Int) + 1), w1, w2) ⟨pre' ++ [e], rest', hl2, by simp⟩ (by have := ltB_iff.1 h1; first | omega | (simp only; omega))
        have e1 : (((pre'.length : Int) + 1).toNat) = (pre' ++ [e]).length := by simp
        simp only [e1, q3, q4] at this
        exact this) ((pre.length : Int), u1, u2) ⟨pre, rest, hl, rfl⟩
  obtain ⟨q1, q2⟩ := hk pre rest hl
  simp only [Int.toNat_natCast, q1, q2] at key
  exact key
theorem wr3z {β R : Type} {α0 α1 : Type} {l : List β} {f : ι → (α0 → α1 → Int → Option R) → α0 → α1 → Int → Option R} (g : List β → List β → α0 → α1 → R) {N : ι → Nat} [Tends N] {u0 : α0} {u1 : α1} {n : Int}
    (pre : List β) (rest : List β) (hl : l = pre ++ rest) (hi : n = (pre.length : Int)) (hb : (l.length : Int) ≤ 9223372036854775807)
    (step : ∀ (F : ι × Nat → α0 → α1 → Int → Option R) pre e rest v0 v1, l = pre ++ e :: rest → ltB (pre.length : Int) (l.length : Int) = true → ix l (pre.length : Int) = some e → i64b ((pre.length : Int) + 1) = true →
      (∀ w0 w1, W (fun p => F p w0 w1 ((pre.length : Int) + 1)) (· = g (pre ++ [e]) rest w0 w1)) → W (fun p : ι × Nat => f p.1 (F p) v0 v1 (pre.length : Int)) (· = g pre (e :: rest) v0 v1))
    (done : ∀ (F : ι × Nat → α0 → α1 → Int → Option R) v0 v1, ltB (l.length : Int) (l.length : Int) = false → W (fun p : ι × Nat => f p.1 (F p) v0 v1 (l.length : Int)) (· = g l [] v0 v1)) :
    W (fun i => lp3 (f i) (N i) u0 u1 n) (· = g pre rest u0 u1) := by
  subst hi
  have hk : ∀ (pre' : List β) rest', l = pre' ++ rest' → l.take pre'.length = pre' ∧ l.drop pre'.length = rest' := fun pre' rest' h => by subst h; simp
  have key := W.loopQ (f := fun i next v => f i (fun u0 u1 u2 => next (u0, u1, u2)) v.1 v.2.1 v.2.2) N (fun v => ∃ pre' rest', l = pre' ++ rest' ∧ v.2.2 = (pre'.length : Int)) (fun v => ((l.length : Int) - v.2.2).toNat)
    (fun v r => r = g (l.take (v.2.2).toNat) (l.drop (v.2.2).toNat) (v.1) (v.2.1)) (by
      rintro F ⟨v0, v1, j⟩ ⟨pre', rest', hl', rfl⟩ hn
      obtain ⟨q1, q2⟩ := hk pre' rest' hl'
      simp only [Int.toNat_natCast, q1, q2]
      cases rest' with
      | nil =>
        rw [List.append_nil] at hl'
        subst hl'
        exact done (fun p u0 u1 u2 => F p (u0, u1, u2)) v0 v1 (ltB_irr _)
      | cons e rest' =>
        obtain ⟨h1, h2, h3, _⟩ := at_pre hl' hb
        refine step (fun p u0 u1 u2 => F p (u0, u1, u2)) pre' e rest' v0 v1 hl' h1 h2 h3 fun w0 w1 => ?_
        have hl2 : l = (pre' ++ [e]) ++ rest' := by rw [hl']; simp
        obtain ⟨q3, q4⟩ := hk _ _ hl2
        have := hn (w0, w1, ((pre'.length : Int) + 1)) ⟨pre' ++ [e], rest', hl2, by simp⟩ (by have := ltB_iff.1 h1; first | omega | (simp only; omega))
        have e1 : (((pre'.length : Int) + 1).toNat) = (pre' ++ [e]).length := by simp
        simp only [e1, q3, q4] at this
        exact this) (u0, u1, (pre.length : Int)) ⟨pre, rest, hl, rfl⟩
  obtain ⟨q1, q2⟩ := hk pre rest hl
  simp only [Int.toNat_natCast, q1, q2] at key
  exact key
theorem wr4a {β R : Type} {α1 α2 α3 : Type} {l : List β} {f : ι → (Int → α1 → α2 → α3 → Option R) → Int → α1 → α2 → α3 → Option R} (g : List β → List β → α1 → α2 → α3 → R) {N : ι → Nat} [Tends N] {u1 : α1} {u2 : α2} {u3 : α3} {n : Int}
    (pre : List β) (rest : List β) (hl : l = pre ++ rest) (hi : n = (pre.length : Int)) (hb : (l.length : Int) ≤ 9223372036854775807)
    (step : ∀ (F : ι × Nat → Int → α1 → α2 → α3 → Option R) pre e rest v1 v2 v3, l = pre ++ e :: rest → ltB (pre.length : Int) (l.length : Int) = true → ix l (pre.length : Int) = some e → i64b ((pre.length : Int) + 1) = true →
      (∀ w1 w2 w3, W (fun p => F p ((pre.length : Int) + 1) w1 w2 w3) (· = g (pre ++ [e]) rest w1 w2 w3)) → W (fun p : ι × Nat => f p.1 (F p) (pre.length : Int) v1 v2 v3) (· = g pre (e :: rest) v1 v2 v3))
    (done : ∀ (F : ι × Nat → Int → α1 → α2 → α3 → Option R) v1 v2 v3, ltB (l.length : Int) (l.length : Int) = false → W (fun p : ι × Nat => f p.1 (F p) (l.length : Int) v1 v2 v3) (· = g l [] v1 v2 v3)) :
    W (fun i => lp4 (f i) (N i) n u1 u2 u3) (· = g pre rest u1 u2 u3) := by
  subst hi
  have hk : ∀ (pre' : List β) rest', l = pre' ++ rest' → l.take pre'.length = pre' ∧ l.drop pre'.length = rest' := fun pre' rest' h => by subst h; simp
  have key := W.loopQ (f := fun i next v => f i (fun u0 u1 u2 u3 => next (u0, u1, u2, u3)) v.1 v.2.1 v.2.2.1 v.2.2.2) N (fun v => ∃ pre' rest', l = pre' ++ rest' ∧ v.1 = (pre'.length : Int)) (fun v => ((l.length : Int) - v.1).toNat)
    (fun v r => r = g (l.take (v.1).toNat) (l.drop (v.1).toNat) (v.2.1) (v.2.2.1) (v.2.2.2)) (by
      rintro F ⟨j, v1, v2, v3⟩ ⟨pre', rest', hl', rfl⟩ hn
      obtain ⟨q1, q2⟩ := hk pre' rest' hl'
      simp only [Int.toNat_natCast, q1, q2]
      cases rest' with
      | nil =>
        rw [List.append_nil] at hl'
        subst hl'
        exact done (fun p u0 u1 u2 u3 => F p (u0, u1, u2, u3)) v1 v2 v3 (ltB_irr _)
      | cons e rest' =>
        obtain ⟨h1, h2, h3, _⟩ := at_pre hl' hb
        refine step (fun p u0 u1 u2 u3 => F p (u0, u1, u2, u3)) pre' e rest' v1 v2 v3 hl' h1 h2 h3 fun w1 w2 w3 => ?_
        have hl2 : l = (pre' ++ [e]) ++ rest' := by rw [hl']; simp
        obtain ⟨q3, q4⟩ := hk _ _ hl2
        have := hn (((pre'.length : Int) + 1), w1, w2, w3) ⟨pre' ++ [e], rest', hl2, by simp⟩ (by have := ltB_iff.1 h1; first | omega | (simp only; omega))
        have e1 : (((pre'.length : Int) + 1).toNat) = (pre' ++ [e]).length := by simp
        simp only [e1, q3, q4] at this
        exact this) ((pre.length : Int), u1, u2, u3) ⟨pre, rest, hl, rfl⟩
  obtain ⟨q1, q2⟩ := hk pre rest hl
  simp only [Int.toNat_natCast, q1, q2] at key
  exact key
theorem wr4z {β R : Type} {α0 α1 α2 : Type} {l : List β} {f : ι → (α0 → α1 → α2 → Int → Option R) → α0 → α1 → α2 → Int → Option R} (g : List β → List β → α0 → α1 → α2 → R) {N : ι → Nat} [Tends N] {u0 : α0} {u1 : α1} {u2 : α2} {n : Int}
    (pre : List β) (rest : List β) (hl : l = pre ++ rest) (hi : n = (pre.length : Int)) (hb : (l.length : Int) ≤ 9223372036854775807)
    (step : ∀ (F : ι × Nat → α0 → α1 → α2 → Int → Option R) pre e rest v0 v1 v2, l = pre ++ e :: rest → ltB (pre.length : Int) (l.length : Int) = true → ix l (pre.length : Int) = some e → i64b ((pre.length : Int) + 1) = true →
      (∀ w0 w1 w2, W (fun p => F p w0 w1 w2 ((pre.length : Int) + 1)) (· = g (pre ++ [e]) rest w0 w1 w2)) → W (fun p : ι × Nat => f p.1 (F p) v0 v1 v2 (pre.length : Int)) (· = g pre (e :: rest) v0 v1 v2))
    (done : ∀ (F : ι × Nat → α0 → α1 → α2 → Int → Option R) v0 v1 v2, ltB (l.length : Int) (l.length : Int) = false → W (fun p : ι × Nat => f p.1 (F p) v0 v1 v2 (l.length : Int)) (· = g l [] v0 v1 v2)) :
    W (fun i => lp4 (f i) (N i) u0 u1 u2 n) (· = g pre rest u0 u1 u2) := by
  subst hi
  have hk : ∀ (pre' : List β) rest', l = pre' ++ rest' → l.take pre'.length = pre' ∧ l.drop pre'.length = rest' := fun pre' rest' h => by subst h; simp
  have key := W.loopQ (f := fun i next v => f i (fun u0 u1 u2 u3 => next (u0, u1, u2, u3)) v.1 v.2.1 v.2.2.1 v.2.2.2) N (fun v => ∃ pre' rest', l = pre' ++ rest' ∧ v.2.2.2 = (pre'.length : Int)) (fun v => ((l.length : Int) - v.2.2.2).toNat)
    (fun v r => r = g (l.take (v.2.2.2).toNat) (l.drop (v.2.2.2).toNat) (v.1) (v.2.1) (v.2.2.1)) (by
      rintro F ⟨v0, v1, v2, j⟩ ⟨pre', rest', hl', rfl⟩ hn
      obtain ⟨q1, q2⟩ := hk pre' rest' hl'
      simp only [Int.toNat_natCast, q1, q2]
      cases rest' with
      | nil =>
        rw [List.append_nil] at hl'
        subst hl'
        exact done (fun p u0 u1 u2 u3 => F p (u0, u1, u2, u3)) v0 v1 v2 (ltB_irr _)
      | cons e rest' =>
        obtain ⟨h1, h2, h3, _⟩ := at_pre hl' hb
        refine step (fun p u0 u1 u2 u3 => F p (u0, u1, u2, u3)) pre' e rest' v0 v1 v2 hl' h1 h2 h3 fun w0 w1 w2 => ?_
        have hl2 : l = (pre' ++ [e]) ++ rest' := by rw [hl']; simp
        obtain ⟨q3, q4⟩ := hk _ _ hl2
        have := hn (w0, w1, w2, ((pre'.length : Int) + 1)) ⟨pre' ++ [e], rest', hl2, by simp⟩ (by have := ltB_iff.1 h1; first | omega | (simp only; omega))
        have e1 : (((pre'.length : Int) + 1).toNat) = (pre' ++ [e]).length := by simp
        simp only [e1, q3, q4] at this
        exact this) (u0, u1, u2, (pre.length : Int)) ⟨pre, rest, hl, rfl⟩
  obtain ⟨q1, q2⟩ := hk pre rest hl
  simp only [Int.toNat_natCast, q1, q2] at key
  exact key
theorem wr5a {β R : Type} {α1 α2 α3 α4 : Type} {l : List β} {f : ι → (Int → α1 → α2 → α3 → α4 → Option R) → Int → α1 → α2 → α3 → α4 → Option R} (g : List β → List β → α1 → α2 → α3 → α4 → R) {N : ι → Nat} [Tends N] {u1 : α1} {u2 : α2} {u3 : α3} {u4 : α4} {n : Int}
    (pre : List β) (rest : List β) (hl : l = pre ++ rest) (hi : n = (pre.length : Int)) (hb : (l.length : Int) ≤ 9223372036854775807)
    (step : ∀ (F : ι × Nat → Int → α1 → α2 → α3 → α4 → Option R) pre e rest v1 v2 v3 v4, l = pre ++ e :: rest → ltB (pre.length : Int) (l.length : Int) = true → ix l (pre.length : Int) = some e → i64b ((pre.length : Int) + 1) = true →
      (∀ w1 w2 w3 w4, W (fun p => F p ((pre.length : Int) + 1) w1 w2 w3 w4) (· = g (pre ++ [e]) rest w1 w2 w3 w4)) → W (fun p : ι × Nat => f p.1 (F p) (pre.length : Int) v1 v2 v3 v4) (· = g pre (e :: rest) v1 v2 v3 v4))
    (done : ∀ (F : ι × Nat → Int → α1 → α2 → α3 → α4 → Option R) v1 v2 v3 v4, ltB (l.length : Int) (l.length : Int) = false → W (fun p : ι × Nat => f p.1 (F p) (l.length : Int) v1 v2 v3 v4) (· = g l [] v1 v2 v3 v4)) :
    W (fun i => lp5 (f i) (N i) n u1 u2 u3 u4) (· = g pre rest u1 u2 u3 u4) := by
  subst hi
  have hk : ∀ (pre' : List β) rest', l = pre' ++ rest' → l.take pre'.length = pre' ∧ l.drop pre'.length = rest' := fun pre' rest' h => by subst h; simp
  have key := W.loopQ (f := fun i next v => f i (fun u0 u1 u2 u3 u4 => next (u0, u1, u2, u3, u4)) v.1 v.2.1 v.2.2.1 v.2.2.2.1 v.2.2.2.2) N (fun v => ∃ pre' rest', l = pre' ++ rest' ∧ v.1 = (pre'.length : Int)) (fun v => ((l.length : Int) - v.1).toNat)
    (fun v r => r = g (l.take (v.1).toNat) (l.drop (v.1).toNat) (v.2.1) (v.2.2.1) (v.2.2.2.1) (v.2.2.2.2)) (by
      rintro F ⟨j, v1, v2, v3, v4⟩ ⟨pre', rest', hl', rfl⟩ hn
      obtain ⟨q1, q2⟩ := hk pre' rest' hl'
      simp only [Int.toNat_natCast, q1, q2]
      cases rest' with
      | nil =>
        rw [List.append_nil] at hl'
        subst hl'
        exact done (fun p u0 u1 u2 u3 u4 => F p (u0, u1, u2, u3, u4)) v1 v2 v3 v4 (ltB_irr _)
      | cons e rest' =>
        obtain ⟨h1, h2, h3, _⟩ := at_pre hl' hb
        refine step (fun p u0 u1 u2 u3 u4 => F p (u0, u1, u2, u3, u4)) pre' e rest' v1 v2 v3 v4 hl' h1 h2 h3 fun w1 w2 w3 w4 => ?_
        have hl2 : l = (pre' ++ [e]) ++ rest' := by rw [hl']; simp
        obtain ⟨q3, q4⟩ := hk _ _ hl2
        have := hn (((pre'.length : Int) + 1), w1, w2, w3, w4) ⟨pre' ++ [e], rest', hl2, by simp⟩ (by have := ltB_iff.1 h1; first | omega | (simp only; omega))
        have e1 : (((pre'.length : Int) + 1).toNat) = (pre' ++ [e]).length := by simp
        simp only [e1, q3, q4] at this
        exact this) ((pre.length : Int), u1, u2, u3, u4) ⟨pre, rest, hl, rfl⟩
  obtain ⟨q1, q2⟩ := hk pre rest hl
  simp only [Int.toNat_natCast, q1, q2] at key
  exact key
theorem wr5z {β R : Type} {α0 α1 α2 α3 : Type} {l : List β} {f : ι → (α0 → α1 → α2 → α3 → Int → Option R) → α0 → α1 → α2 → α3 → Int → Option R} (g : List β → List β → α0 → α1 → α2 → α3 → R) {N : ι → Nat} [Tends N] {u0 : α0} {u1 : α1} {u2 : α2} {u3 : α3} {n : Int}
    (pre : List β) (rest : List β) (hl : l = pre ++ rest) (hi : n = (pre.length : Int)) (hb : (l.length : Int) ≤ 9223372036854775807)
    (step : ∀ (F : ι × Nat → α0 → α1 → α2 → α3 → Int → Option R) pre e rest v0 v1 v2 v3, l = pre ++ e :: rest → ltB (pre.length : Int) (l.length : Int) = true → ix l (pre.length : Int) = some e → i64b ((pre.length : Int) + 1) = true →
      (∀ w0 w1 w2 w3, W (fun p => F p w0 w1 w2 w3 ((pre.length : Int) + 1)) (· = g (pre ++ [e]) rest w0 w1 w2 w3)) → W (fun p : ι × Nat => f p.1 (F p) v0 v1 v2 v3 (pre.length : Int)) (· = g pre (e :: rest) v0 v1 v2 v3))
    (done : ∀ (F : ι × Nat → α0 → α1 → α2 → α3 → Int → Option R) v0 v1 v2 v3, ltB (l.length : Int) (l.length : Int) = false → W (fun p : ι × Nat => f p.1 (F p) v0 v1 v2 v3 (l.length : Int)) (· = g l [] v0 v1 v2 v3)) :
    W (fun i => lp5 (f i) (N i) u0 u1 u2 u3 n) (· = g pre rest u0 u1 u2 u3) := by
  subst hi
  have hk : ∀ (pre' : List β) rest', l = pre' ++ rest' → l.take pre'.length = pre' ∧ l.drop pre'.length = rest' := fun pre' rest' h => by subst h; simp
  have key := W.loopQ (f := fun i next v => f i (fun u0 u1 u2 u3 u4 => next (u0, u1, u2, u3, u4)) v.1 v.2.1 v.2.2.1 v.2.2.2.1 v.2.2.2.2) N (fun v => ∃ pre' rest', l = pre' ++ rest' ∧ v.2.2.2.2 = (pre'.length : Int)) (fun v => ((l.length : Int) - v.2.2.2.2).toNat)
    (fun v r => r = g (l.take (v.2.2.2.2).toNat) (l.drop (v.2.2.2.2).toNat) (v.1) (v.2.1) (v.2.2.1) (v.2.2.2.1)) (by
      rintro F ⟨v0, v1, v2, v3, j⟩ ⟨pre', rest', hl', rfl⟩ hn
      obtain ⟨q1, q2⟩ := hk pre' rest' hl'
      simp only [Int.toNat_natCast, q1, q2]
      cases rest' with
      | nil =>
        rw [List.append_nil] at hl'
        subst hl'
        exact done (fun p u0 u1 u2 u3 u4 => F p (u0, u1, u2, u3, u4)) v0 v1 v2 v3 (ltB_irr _)
      | cons e rest' =>
        obtain ⟨h1, h2, h3, _⟩ := at_pre hl' hb
        refine step (fun p u0 u1 u2 u3 u4 => F p (u0, u1, u2, u3, u4)) pre' e rest' v0 v1 v2 v3 hl' h1 h2 h3 fun w0 w1 w2 w3 => ?_
        have hl2 : l = (pre' ++ [e]) ++ rest' := by rw [hl']; simp
        obtain ⟨q3, q4⟩ := hk _ _ hl2
        have := hn (w0, w1, w2, w3, ((pre'.length : Int) + 1)) ⟨pre' ++ [e], rest', hl2, by simp⟩ (by have := ltB_iff.1 h1; first | omega | (simp only; omega))
        have e1 : (((pre'.length : Int) + 1).toNat) = (pre' ++ [e]).length := by simp
        simp only [e1, q3, q4] at this
        exact this) (u0, u1, u2, u3, (pre.length : Int)) ⟨pre, rest, hl, rfl⟩
  obtain ⟨q1, q2⟩ := hk pre rest hl
  simp only [Int.toNat_natCast, q1, q2] at key
  exact key
end
end Go.Proofs.YtmjmbhkohcdlpaaDoor.W
namespace Go.Proofs.YtmjmbhkohcdlpaaDoor.W
open Go
/-- A whole number of its kind. -/
def inK (k : IntKind) (n : Int) : Prop := k.min ≤ n ∧ n ≤ k.max
def okS (s : List UInt8) : Prop := s.length ≤ maxLen
def okL {α : Type} (ok : α → Prop) (l : List α) : Prop := (∀ x ∈ l, ok x) ∧ l.length ≤ maxLen
theorem dv_array {H : Type} {P : Program} {t e n : Nat} {d : DataW H} {as : List AV} (hu : P.underlying t = some (.array n e)) (h : DAv P t d as) : ∃ parts : List (DataW H), DAvs P (List.replicate n e) parts as := by
  cases h with
  | array h' ha => rw [h'] at hu; cases hu; exact ⟨_, ha⟩
  | struct h' ha => rw [h'] at hu; cases hu
  | nil h' => rw [h'] at hu; cases hu
  | slice h' hl ha => rw [h'] at hu; cases hu
  | bool h' => rw [h'] at hu; cases hu
  | int h' hw => rw [h'] at hu; cases hu
  | float h' => rw [h'] at hu; cases hu
  | string h' _ => rw [h'] at hu; cases hu
theorem inK_u8 {n : Int} (h : inK .u8 n) : 0 ≤ n ∧ n ≤ 255 := ⟨(show IntKind.u8.min = 0 by decide) ▸ h.1, (show IntKind.u8.max = 255 by decide) ▸ h.2⟩
theorem inK_u64 {n : Int} (h : inK .u64 n) : 0 ≤ n ∧ n ≤ 18446744073709551615 := ⟨(show IntKind.u64.min = 0 by decide) ▸ h.1, (show IntKind.u64.max = 18446744073709551615 by decide) ▸ h.2⟩
theorem inK_i64 {n : Int} (h : inK .i64 n) : -9223372036854775808 ≤ n ∧ n ≤ 9223372036854775807 := ⟨(show IntKind.i64.min = -9223372036854775808 by decide) ▸ h.1, (show IntKind.i64.max = 9223372036854775807 by decide) ▸ h.2⟩
theorem okS_le {s : List UInt8} (h : okS s) : s.length ≤ 9223372036854775807 := h
end Go.Proofs.YtmjmbhkohcdlpaaDoor.W
