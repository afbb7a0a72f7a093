/- Plain functions that count their steps: what they tell if they may take enough of them. No premise beyond what each theorem says. -/
import Derived.Test.YtfblfapkpieckaaDoorWA2
import Derived.Test.YtfblfapkpieckaaDoorWG1
import Derived.Laws.BitsLemmas
import Derived.Laws.Bits64
set_option linter.all false
set_option linter.unusedSimpArgs false
set_option linter.unusedVariables false
namespace Go.Proofs.YtfblfapkpieckaaDoor.W
open Go

def Evl {α : Type} (f : Nat → Nat → Nat → Option α) (a : α) : Prop := ∃ K, ∀ N n k, K ≤ N → K ≤ n → K ≤ k → f N n k = some a
def EvN {α : Type} (f : Nat → Option α) (a : α) : Prop := ∃ K, ∀ N, K ≤ N → f N = some a

theorem Evl.ret {α : Type} (a : α) : Evl (fun _ _ _ => some a) a := ⟨0, fun _ _ _ _ _ _ => rfl⟩
theorem evN {α : Type} {f : Nat → Option α} {a : α} (h : Evl (fun N _ _ => f N) a) : EvN f a := by
  obtain ⟨K, h⟩ := h
  exact ⟨K, fun N hN => h N N N hN hN hN⟩
theorem EvN.ev {α : Type} {f : Nat → Option α} {a : α} (h : EvN f a) : Evl (fun N _ _ => f N) a := by
  obtain ⟨K, h⟩ := h
  exact ⟨K, fun N _ _ hN _ _ => h N hN⟩
theorem Evl.call {α β : Type} {f : Nat → Option α} {g : α → Nat → Nat → Nat → Option β} {a : α} {b : β} (h1 : EvN f a) (h2 : Evl (g a) b) : Evl (fun N n k => (f N).bind fun x => g x N n k) b := by
  obtain ⟨K1, h1⟩ := h1
  obtain ⟨K2, h2⟩ := h2
  exact ⟨max K1 K2, fun N n k a1 a2 a3 => by
    show (f N).bind _ = _
    rw [h1 N (by omega)]
    exact h2 N n k (by omega) (by omega) (by omega)⟩
theorem EvN.some {α : Type} {f : Nat → Option α} {a : α} (h : ∀ N, f N = .some a) : EvN f a := ⟨0, fun N _ => h N⟩

theorem ev1_loop1 {α0 ρ : Type} {F : Nat → (α0 → Option ρ) → α0 → Option ρ} (P : α0 → Prop) (m : α0 → Nat) (r : α0 → ρ)
    (h : ∀ x0, P x0 → (∀ y0, P y0 → m y0 < m x0 → Evl (fun N n _ => loop1 (F N) n y0) (r y0)) → Evl (fun N n _ => F N (loop1 (F N) n) x0) (r x0)) (x0) (hp : P x0) :
    Evl (fun N _ _ => loop1 (F N) N x0) (r x0) := by
  have key : ∀ q x0, P x0 → m x0 = q → Evl (fun N n _ => loop1 (F N) n x0) (r x0) := by
    intro q
    induction q using Nat.strongRecOn with
    | ind q ih =>
      intro x0 hp hq
      obtain ⟨K, hK⟩ := h x0 hp fun y0 hp' hm => ih _ (by omega) y0 hp' rfl
      refine ⟨K + 1, fun N n k a1 a2 a3 => ?_⟩
      obtain ⟨z, hz⟩ : ∃ z, n = z + 1 := ⟨n - 1, by omega⟩
      subst hz
      exact hK N z k (by omega) (by omega) (by omega)
  obtain ⟨K, hK⟩ := key _ x0 hp rfl
  exact ⟨K, fun N n k a1 a2 a3 => hK N N N a1 a1 a1⟩

theorem ev2_loop1 {α0 ρ : Type} {F : Nat → Nat → (α0 → Option ρ) → α0 → Option ρ} (P : α0 → Prop) (m : α0 → Nat) (r : α0 → ρ)
    (h : ∀ x0, P x0 → (∀ y0, P y0 → m y0 < m x0 → Evl (fun N n k => loop1 (F N n) k y0) (r y0)) → Evl (fun N n k => F N n (loop1 (F N n) k) x0) (r x0)) (x0) (hp : P x0) :
    Evl (fun N n _ => loop1 (F N n) N x0) (r x0) := by
  have key : ∀ q x0, P x0 → m x0 = q → Evl (fun N n k => loop1 (F N n) k x0) (r x0) := by
    intro q
    induction q using Nat.strongRecOn with
    | ind q ih =>
      intro x0 hp hq
      obtain ⟨K, hK⟩ := h x0 hp fun y0 hp' hm => ih _ (by omega) y0 hp' rfl
      refine ⟨K + 1, fun N n k a1 a2 a3 => ?_⟩
      obtain ⟨z, hz⟩ : ∃ z, k = z + 1 := ⟨k - 1, by omega⟩
      subst hz
      exact hK N n z (by omega) (by omega) (by omega)
  obtain ⟨K, hK⟩ := key _ x0 hp rfl
  exact ⟨K, fun N n k a1 a2 a3 => hK N n N a1 a2 a1⟩

theorem ev1_loop2 {α0 α1 ρ : Type} {F : Nat → (α0 → α1 → Option ρ) → α0 → α1 → Option ρ} (P : α0 → α1 → Prop) (m : α0 → α1 → Nat) (r : α0 → α1 → ρ)
    (h : ∀ x0 x1, P x0 x1 → (∀ y0 y1, P y0 y1 → m y0 y1 < m x0 x1 → Evl (fun N n _ => loop2 (F N) n y0 y1) (r y0 y1)) → Evl (fun N n _ => F N (loop2 (F N) n) x0 x1) (r x0 x1)) (x0 x1) (hp : P x0 x1) :
    Evl (fun N _ _ => loop2 (F N) N x0 x1) (r x0 x1) := by
  have key : ∀ q x0 x1, P x0 x1 → m x0 x1 = q → Evl (fun N n _ => loop2 (F N) n x0 x1) (r x0 x1) := by
    intro q
    induction q using Nat.strongRecOn with
    | ind q ih =>
      intro x0 x1 hp hq
      obtain ⟨K, hK⟩ := h x0 x1 hp fun y0 y1 hp' hm => ih _ (by omega) y0 y1 hp' rfl
      refine ⟨K + 1, fun N n k a1 a2 a3 => ?_⟩
      obtain ⟨z, hz⟩ : ∃ z, n = z + 1 := ⟨n - 1, by omega⟩
      subst hz
      exact hK N z k (by omega) (by omega) (by omega)
  obtain ⟨K, hK⟩ := key _ x0 x1 hp rfl
  exact ⟨K, fun N n k a1 a2 a3 => hK N N N a1 a1 a1⟩

theorem ev2_loop2 {α0 α1 ρ : Type} {F : Nat → Nat → (α0 → α1 → Option ρ) → α0 → α1 → Option ρ} (P : α0 → α1 → Prop) (m : α0 → α1 → Nat) (r : α0 → α1 → ρ)
    (h : ∀ x0 x1, P x0 x1 → (∀ y0 y1, P y0 y1 → m y0 y1 < m x0 x1 → Evl (fun N n k => loop2 (F N n) k y0 y1) (r y0 y1)) → Evl (fun N n k => F N n (loop2 (F N n) k) x0 x1) (r x0 x1)) (x0 x1) (hp : P x0 x1) :
    Evl (fun N n _ => loop2 (F N n) N x0 x1) (r x0 x1) := by
  have key : ∀ q x0 x1, P x0 x1 → m x0 x1 = q → Evl (fun N n k => loop2 (F N n) k x0 x1) (r x0 x1) := by
    intro q
    induction q using Nat.strongRecOn with
    | ind q ih =>
      intro x0 x1 hp hq
      obtain ⟨K, hK⟩ := h x0 x1 hp fun y0 y1 hp' hm => ih _ (by omega) y0 y1 hp' rfl
      refine ⟨K + 1, fun N n k a1 a2 a3 => ?_⟩
      obtain ⟨z, hz⟩ : ∃ z, k = z + 1 := ⟨k - 1, by omega⟩
      subst hz
      exact hK N n z (by omega) (by omega) (by omega)
  obtain ⟨K, hK⟩ := key _ x0 x1 hp rfl
  exact ⟨K, fun N n k a1 a2 a3 => hK N n N a1 a2 a1⟩

theorem ev1_loop3 {α0 α1 α2 ρ : Type} {F : Nat → (α0 → α1 → α2 → Option ρ) → α0 → α1 → α2 → Option ρ} (P : α0 → α1 → α2 → Prop) (m : α0 → α1 → α2 → Nat) (r : α0 → α1 → α2 → ρ)
    (h : ∀ x0 x1 x2, P x0 x1 x2 → (∀ y0 y1 y2, P y0 y1 y2 → m y0 y1 y2 < m x0 x1 x2 → Evl (fun N n _ => loop3 (F N) n y0 y1 y2) (r y0 y1 y2)) → Evl (fun N n _ => F N (loop3 (F N) n) x0 x1 x2) (r x0 x1 x2)) (x0 x1 x2) (hp : P x0 x1 x2) :
    Evl (fun N _ _ => loop3 (F N) N x0 x1 x2) (r x0 x1 x2) := by
  have key : ∀ q x0 x1 x2, P x0 x1 x2 → m x0 x1 x2 = q → Evl (fun N n _ => loop3 (F N) n x0 x1 x2) (r x0 x1 x2) := by
    intro q
    induction q using Nat.strongRecOn with
    | ind q ih =>
      intro x0 x1 x2 hp hq
      obtain ⟨K, hK⟩ := h x0 x1 x2 hp fun y0 y1 y2 hp' hm => ih _ (by omega) y0 y1 y2 hp' rfl
      refine ⟨K + 1, fun N n k a1 a2 a3 => ?_⟩
      obtain ⟨z, hz⟩ : ∃ z, n = z + 1 := ⟨n - 1, by omega⟩
      subst hz
      exact hK N z k (by omega) (by omega) (by omega)
  obtain ⟨K, hK⟩ := key _ x0 x1 x2 hp rfl
  exact ⟨K, fun N n k a1 a2 a3 => hK N N N a1 a1 a1⟩

theorem ev2_loop3 {α0 α1 α2 ρ : Type} {F : Nat → Nat → (α0 → α1 → α2 → Option ρ) → α0 → α1 → α2 → Option ρ} (P : α0 → α1 → α2 → Prop) (m : α0 → α1 → α2 → Nat) (r : α0 → α1 → α2 → ρ)
    (h : ∀ x0 x1 x2, P x0 x1 x2 → (∀ y0 y1 y2, P y0 y1 y2 → m y0 y1 y2 < m x0 x1 x2 → Evl (fun N n k => loop3 (F N n) k y0 y1 y2) (r y0 y1 y2)) → Evl (fun N n k => F N n (loop3 (F N n) k) x0 x1 x2) (r x0 x1 x2)) (x0 x1 x2) (hp : P x0 x1 x2) :
    Evl (fun N n _ => loop3 (F N n) N x0 x1 x2) (r x0 x1 x2) := by
  have key : ∀ q x0 x1 x2, P x0 x1 x2 → m x0 x1 x2 = q → Evl (fun N n k => loop3 (F N n) k x0 x1 x2) (r x0 x1 x2) := by
    intro q
    induction q using Nat.strongRecOn with
    | ind q ih =>
      intro x0 x1 x2 hp hq
      obtain ⟨K, hK⟩ := h x0 x1 x2 hp fun y0 y1 y2 hp' hm => ih _ (by omega) y0 y1 y2 hp' rfl
      refine ⟨K + 1, fun N n k a1 a2 a3 => ?_⟩
      obtain ⟨z, hz⟩ : ∃ z, k = z + 1 := ⟨k - 1, by omega⟩
      subst hz
      exact hK N n z (by omega) (by omega) (by omega)
  obtain ⟨K, hK⟩ := key _ x0 x1 x2 hp rfl
  exact ⟨K, fun N n k a1 a2 a3 => hK N n N a1 a2 a1⟩

theorem ev1_loop4 {α0 α1 α2 α3 ρ : Type} {F : Nat → (α0 → α1 → α2 → α3 → Option ρ) → α0 → α1 → α2 → α3 → Option ρ} (P : α0 → α1 → α2 → α3 → Prop) (m : α0 → α1 → α2 → α3 → Nat) (r : α0 → α1 → α2 → α3 → ρ)
    (h : ∀ x0 x1 x2 x3, P x0 x1 x2 x3 → (∀ y0 y1 y2 y3, P y0 y1 y2 y3 → m y0 y1 y2 y3 < m x0 x1 x2 x3 → Evl (fun N n _ => loop4 (F N) n y0 y1 y2 y3) (r y0 y1 y2 y3)) → Evl (fun N n _ => F N (loop4 (F N) n) x0 x1 x2 x3) (r x0 x1 x2 x3)) (x0 x1 x2 x3) (hp : P x0 x1 x2 x3) :
    Evl (fun N _ _ => loop4 (F N) N x0 x1 x2 x3) (r x0 x1 x2 x3) := by
  have key : ∀ q x0 x1 x2 x3, P x0 x1 x2 x3 → m x0 x1 x2 x3 = q → Evl (fun N n _ => loop4 (F N) n x0 x1 x2 x3) (r x0 x1 x2 x3) := by
    intro q
    induction q using Nat.strongRecOn with
    | ind q ih =>
      intro x0 x1 x2 x3 hp hq
      obtain ⟨K, hK⟩ := h x0 x1 x2 x3 hp fun y0 y1 y2 y3 hp' hm => ih _ (by omega) y0 y1 y2 y3 hp' rfl
      refine ⟨K + 1, fun N n k a1 a2 a3 => ?_⟩
      obtain ⟨z, hz⟩ : ∃ z, n = z + 1 := ⟨n - 1, by omega⟩
      subst hz
      exact hK N z k (by omega) (by omega) (by omega)
  obtain ⟨K, hK⟩ := key _ x0 x1 x2 x3 hp rfl
  exact ⟨K, fun N n k a1 a2 a3 => hK N N N a1 a1 a1⟩

theorem ev2_loop4 {α0 α1 α2 α3 ρ : Type} {F : Nat → Nat → (α0 → α1 → α2 → α3 → Option ρ) → α0 → α1 → α2 → α3 → Option ρ} (P : α0 → α1 → α2 → α3 → Prop) (m : α0 → α1 → α2 → α3 → Nat) (r : α0 → α1 → α2 → α3 → ρ)
    (h : ∀ x0 x1 x2 x3, P x0 x1 x2 x3 → (∀ y0 y1 y2 y3, P y0 y1 y2 y3 → m y0 y1 y2 y3 < m x0 x1 x2 x3 → Evl (fun N n k => loop4 (F N n) k y0 y1 y2 y3) (r y0 y1 y2 y3)) → Evl (fun N n k => F N n (loop4 (F N n) k) x0 x1 x2 x3) (r x0 x1 x2 x3)) (x0 x1 x2 x3) (hp : P x0 x1 x2 x3) :
    Evl (fun N n _ => loop4 (F N n) N x0 x1 x2 x3) (r x0 x1 x2 x3) := by
  have key : ∀ q x0 x1 x2 x3, P x0 x1 x2 x3 → m x0 x1 x2 x3 = q → Evl (fun N n k => loop4 (F N n) k x0 x1 x2 x3) (r x0 x1 x2 x3) := by
    intro q
    induction q using Nat.strongRecOn with
    | ind q ih =>
      intro x0 x1 x2 x3 hp hq
      obtain ⟨K, hK⟩ := h x0 x1 x2 x3 hp fun y0 y1 y2 y3 hp' hm => ih _ (by omega) y0 y1 y2 y3 hp' rfl
      refine ⟨K + 1, fun N n k a1 a2 a3 => ?_⟩
      obtain ⟨z, hz⟩ : ∃ z, k = z + 1 := ⟨k - 1, by omega⟩
      subst hz
      exact hK N n z (by omega) (by omega) (by omega)
  obtain ⟨K, hK⟩ := key _ x0 x1 x2 x3 hp rfl
  exact ⟨K, fun N n k a1 a2 a3 => hK N n N a1 a2 a1⟩

theorem ev1_loop5 {α0 α1 α2 α3 α4 ρ : Type} {F : Nat → (α0 → α1 → α2 → α3 → α4 → Option ρ) → α0 → α1 → α2 → α3 → α4 → Option ρ} (P : α0 → α1 → α2 → α3 → α4 → Prop) (m : α0 → α1 → α2 → α3 → α4 → Nat) (r : α0 → α1 → α2 → α3 → α4 → ρ)
    (h : ∀ x0 x1 x2 x3 x4, P x0 x1 x2 x3 x4 → (∀ y0 y1 y2 y3 y4, P y0 y1 y2 y3 y4 → m y0 y1 y2 y3 y4 < m x0 x1 x2 x3 x4 → Evl (fun N n _ => loop5 (F N) n y0 y1 y2 y3 y4) (r y0 y1 y2 y3 y4)) → Evl (fun N n _ => F N (loop5 (F N) n) x0 x1 x2 x3 x4) (r x0 x1 x2 x3 x4)) (x0 x1 x2 x3 x4) (hp : P x0 x1 x2 x3 x4) :
    Evl (fun N _ _ => loop5 (F N) N x0 x1 x2 x3 x4) (r x0 x1 x2 x3 x4) := by
  have key : ∀ q x0 x1 x2 x3 x4, P x0 x1 x2 x3 x4 → m x0 x1 x2 x3 x4 = q → Evl (fun N n _ => loop5 (F N) n x0 x1 x2 x3 x4) (r x0 x1 x2 x3 x4) := by
    intro q
    induction q using Nat.strongRecOn with
    | ind q ih =>
      intro x0 x1 x2 x3 x4 hp hq
      obtain ⟨K, hK⟩ := h x0 x1 x2 x3 x4 hp fun y0 y1 y2 y3 y4 hp' hm => ih _ (by omega) y0 y1 y2 y3 y4 hp' rfl
      refine ⟨K + 1, fun N n k a1 a2 a3 => ?_⟩
      obtain ⟨z, hz⟩ : ∃ z, n = z + 1 := ⟨n - 1, by omega⟩
      subst hz
      exact hK N z k (by omega) (by omega) (by omega)
  obtain ⟨K, hK⟩ := key _ x0 x1 x2 x3 x4 hp rfl
  exact ⟨K, fun N n k a1 a2 a3 => hK N N N a1 a1 a1⟩

theorem ev2_loop5 {α0 α1 α2 α3 α4 ρ : Type} {F : Nat → Nat → (α0 → α1 → α2 → α3 → α4 → Option ρ) → α0 → α1 → α2 → α3 → α4 → Option ρ} (P : α0 → α1 → α2 → α3 → α4 → Prop) (m : α0 → α1 → α2 → α3 → α4 → Nat) (r : α0 → α1 → α2 → α3 → α4 → ρ)
    (h : ∀ x0 x1 x2 x3 x4, P x0 x1 x2 x3 x4 → (∀ y0 y1 y2 y3 y4, P y0 y1 y2 y3 y4 → m y0 y1 y2 y3 y4 < m x0 x1 x2 x3 x4 → Evl (fun N n k => loop5 (F N n) k y0 y1 y2 y3 y4) (r y0 y1 y2 y3 y4)) → Evl (fun N n k => F N n (loop5 (F N n) k) x0 x1 x2 x3 x4) (r x0 x1 x2 x3 x4)) (x0 x1 x2 x3 x4) (hp : P x0 x1 x2 x3 x4) :
    Evl (fun N n _ => loop5 (F N n) N x0 x1 x2 x3 x4) (r x0 x1 x2 x3 x4) := by
  have key : ∀ q x0 x1 x2 x3 x4, P x0 x1 x2 x3 x4 → m x0 x1 x2 x3 x4 = q → Evl (fun N n k => loop5 (F N n) k x0 x1 x2 x3 x4) (r x0 x1 x2 x3 x4) := by
    intro q
    induction q using Nat.strongRecOn with
    | ind q ih =>
      intro x0 x1 x2 x3 x4 hp hq
      obtain ⟨K, hK⟩ := h x0 x1 x2 x3 x4 hp fun y0 y1 y2 y3 y4 hp' hm => ih _ (by omega) y0 y1 y2 y3 y4 hp' rfl
      refine ⟨K + 1, fun N n k a1 a2 a3 => ?_⟩
      obtain ⟨z, hz⟩ : ∃ z, k = z + 1 := ⟨k - 1, by omega⟩
      subst hz
      exact hK N n z (by omega) (by omega) (by omega)
  obtain ⟨K, hK⟩ := key _ x0 x1 x2 x3 x4 hp rfl
  exact ⟨K, fun N n k a1 a2 a3 => hK N n N a1 a2 a1⟩

theorem ev1_loop6 {α0 α1 α2 α3 α4 α5 ρ : Type} {F : Nat → (α0 → α1 → α2 → α3 → α4 → α5 → Option ρ) → α0 → α1 → α2 → α3 → α4 → α5 → Option ρ} (P : α0 → α1 → α2 → α3 → α4 → α5 → Prop) (m : α0 → α1 → α2 → α3 → α4 → α5 → Nat) (r : α0 → α1 → α2 → α3 → α4 → α5 → ρ)
    (h : ∀ x0 x1 x2 x3 x4 x5, P x0 x1 x2 x3 x4 x5 → (∀ y0 y1 y2 y3 y4 y5, P y0 y1 y2 y3 y4 y5 → m y0 y1 y2 y3 y4 y5 < m x0 x1 x2 x3 x4 x5 → Evl (fun N n _ => loop6 (F N) n y0 y1 y2 y3 y4 y5) (r y0 y1 y2 y3 y4 y5)) → Evl (fun N n _ => F N (loop6 (F N) n) x0 x1 x2 x3 x4 x5) (r x0 x1 x2 x3 x4 x5)) (x0 x1 x2 x3 x4 x5) (hp : P x0 x1 x2 x3 x4 x5) :
    Evl (fun N _ _ => loop6 (F N) N x0 x1 x2 x3 x4 x5) (r x0 x1 x2 x3 x4 x5) := by
  have key : ∀ q x0 x1 x2 x3 x4 x5, P x0 x1 x2 x3 x4 x5 → m x0 x1 x2 x3 x4 x5 = q → Evl (fun N n _ => loop6 (F N) n x0 x1 x2 x3 x4 x5) (r x0 x1 x2 x3 x4 x5) := by
    intro q
    induction q using Nat.strongRecOn with
    | ind q ih =>
      intro x0 x1 x2 x3 x4 x5 hp hq
      obtain ⟨K, hK⟩ := h x0 x1 x2 x3 x4 x5 hp fun y0 y1 y2 y3 y4 y5 hp' hm => ih _ (by omega) y0 y1 y2 y3 y4 y5 hp' rfl
      refine ⟨K + 1, fun N n k a1 a2 a3 => ?_⟩
      obtain ⟨z, hz⟩ : ∃ z, n = z + 1 := ⟨n - 1, by omega⟩
      subst hz
      exact hK N z k (by omega) (by omega) (by omega)
  obtain ⟨K, hK⟩ := key _ x0 x1 x2 x3 x4 x5 hp rfl
  exact ⟨K, fun N n k a1 a2 a3 => hK N N N a1 a1 a1⟩

theorem ev2_loop6 {α0 α1 α2 α3 α4 α5 ρ : Type} {F : Nat → Nat → (α0 → α1 → α2 → α3 → α4 → α5 → Option ρ) → α0 → α1 → α2 → α3 → α4 → α5 → Option ρ} (P : α0 → α1 → α2 → α3 → α4 → α5 → Prop) (m : α0 → α1 → α2 → α3 → α4 → α5 → Nat) (r : α0 → α1 → α2 → α3 → α4 → α5 → ρ)
    (h : ∀ x0 x1 x2 x3 x4 x5, P x0 x1 x2 x3 x4 x5 → (∀ y0 y1 y2 y3 y4 y5, P y0 y1 y2 y3 y4 y5 → m y0 y1 y2 y3 y4 y5 < m x0 x1 x2 x3 x4 x5 → Evl (fun N n k => loop6 (F N n) k y0 y1 y2 y3 y4 y5) (r y0 y1 y2 y3 y4 y5)) → Evl (fun N n k => F N n (loop6 (F N n) k) x0 x1 x2 x3 x4 x5) (r x0 x1 x2 x3 x4 x5)) (x0 x1 x2 x3 x4 x5) (hp : P x0 x1 x2 x3 x4 x5) :
    Evl (fun N n _ => loop6 (F N n) N x0 x1 x2 x3 x4 x5) (r x0 x1 x2 x3 x4 x5) := by
  have key : ∀ q x0 x1 x2 x3 x4 x5, P x0 x1 x2 x3 x4 x5 → m x0 x1 x2 x3 x4 x5 = q → Evl (fun N n k => loop6 (F N n) k x0 x1 x2 x3 x4 x5) (r x0 x1 x2 x3 x4 x5) := by
    intro q
    induction q using Nat.strongRecOn with
    | ind q ih =>
      intro x0 x1 x2 x3 x4 x5 hp hq
      obtain ⟨K, hK⟩ := h x0 x1 x2 x3 x4 x5 hp fun y0 y1 y2 y3 y4 y5 hp' hm => ih _ (by omega) y0 y1 y2 y3 y4 y5 hp' rfl
      refine ⟨K + 1, fun N n k a1 a2 a3 => ?_⟩
      obtain ⟨z, hz⟩ : ∃ z, k = z + 1 := ⟨k - 1, by omega⟩
      subst hz
      exact hK N n z (by omega) (by omega) (by omega)
  obtain ⟨K, hK⟩ := key _ x0 x1 x2 x3 x4 x5 hp rfl
  exact ⟨K, fun N n k a1 a2 a3 => hK N n N a1 a2 a1⟩

theorem drop_cases {α : Type} (l : List α) (i : Nat) (hi : i ≤ l.length) : (i = l.length ∧ l.drop i = []) ∨ ∃ e rest, i < l.length ∧ l.drop i = e :: rest ∧ l.drop (i + 1) = rest ∧ l[i]? = some e := by
  rcases Nat.lt_or_ge i l.length with h | h
  · exact .inr ⟨l[i], _, h, List.drop_eq_getElem_cons h, rfl, List.getElem?_eq_getElem h⟩
  · exact .inl ⟨by omega, List.drop_eq_nil_of_le h⟩
theorem ix_cast {α : Type} (l : List α) (i : Nat) : ix l (i : Int) = l[i]? := by simp [ix]

theorem range1 {β ρ : Type} {F : Nat → (Int → Option ρ) → Int → Option ρ} (l : List β) (hb : l.length < 4611686018427387904) (r : Nat → List β → ρ)
    (h0 : Evl (fun N n _ => F N (loop1 (F N) n) (l.length : Int)) (r l.length []))
    (h1 : ∀ (i : Nat) e rest, l.drop i = e :: rest → i < l.length → decide ((i : Int) < (l.length : Int)) = true → ix l (i : Int) = some e → i64in ((i : Int) + 1) → Evl (fun N n _ => loop1 (F N) n ((i : Int) + 1)) (r (i + 1) rest) → Evl (fun N n _ => F N (loop1 (F N) n) (i : Int)) (r i (e :: rest)))
    (i : Nat) (hi : i ≤ l.length) : Evl (fun N _ _ => loop1 (F N) N (i : Int)) (r i (l.drop i)) := by
  have := ev1_loop1 (F := F) (fun x => ∃ i : Nat, x = (i : Int) ∧ i ≤ l.length) (fun x => l.length - x.toNat) (fun x => r x.toNat (l.drop x.toNat)) (fun x ⟨i, hx, hi⟩ ih => by
    subst hx
    rcases drop_cases l i hi with ⟨e, hd⟩ | ⟨e, rest, hlt, hd, hd', he⟩
    · subst e; simpa [hd] using h0
    · have := ih ((i : Int) + 1) ⟨i + 1, by simp, by omega⟩ (by simp; omega)
      rw [show ((i : Int) + 1).toNat = i + 1 by omega, hd'] at this
      rw [show ((i : Int)).toNat = i by omega, hd]
      exact h1 i e rest hd hlt (decide_eq_true (by omega)) (by rw [ix_cast, he]) (by unfold i64in; omega) this) (i : Int) ⟨i, rfl, hi⟩
  simpa using this

theorem range2 {β ρ : Type} {F : Nat → Nat → (Int → Option ρ) → Int → Option ρ} (l : List β) (hb : l.length < 4611686018427387904) (r : Nat → List β → ρ)
    (h0 : Evl (fun N n k => F N n (loop1 (F N n) k) (l.length : Int)) (r l.length []))
    (h1 : ∀ (i : Nat) e rest, l.drop i = e :: rest → i < l.length → decide ((i : Int) < (l.length : Int)) = true → ix l (i : Int) = some e → i64in ((i : Int) + 1) → Evl (fun N n k => loop1 (F N n) k ((i : Int) + 1)) (r (i + 1) rest) → Evl (fun N n k => F N n (loop1 (F N n) k) (i : Int)) (r i (e :: rest)))
    (i : Nat) (hi : i ≤ l.length) : Evl (fun N n _ => loop1 (F N n) N (i : Int)) (r i (l.drop i)) := by
  have := ev2_loop1 (F := F) (fun x => ∃ i : Nat, x = (i : Int) ∧ i ≤ l.length) (fun x => l.length - x.toNat) (fun x => r x.toNat (l.drop x.toNat)) (fun x ⟨i, hx, hi⟩ ih => by
    subst hx
    rcases drop_cases l i hi with ⟨e, hd⟩ | ⟨e, rest, hlt, hd, hd', he⟩
    · subst e; simpa [hd] using h0
    · have := ih ((i : Int) + 1) ⟨i + 1, by simp, by omega⟩ (by simp; omega)
      rw [show ((i : Int) + 1).toNat = i + 1 by omega, hd'] at this
      rw [show ((i : Int)).toNat = i by omega, hd]
      exact h1 i e rest hd hlt (decide_eq_true (by omega)) (by rw [ix_cast, he]) (by unfold i64in; omega) this) (i : Int) ⟨i, rfl, hi⟩
  simpa using this

theorem rangeTo1 {β ρ : Type} {F : Nat → (Int → Option ρ) → Int → Option ρ} (l : List β) (q : Nat) (hq : q ≤ l.length) (hb : q < 4611686018427387904) (r : Nat → List β → ρ)
    (h0 : Evl (fun N n _ => F N (loop1 (F N) n) (q : Int)) (r q []))
    (h1 : ∀ (i : Nat) e rest, (l.take q).drop i = e :: rest → i < q → decide ((i : Int) < (q : Int)) = true → ix l (i : Int) = some e → i64in ((i : Int) + 1) → Evl (fun N n _ => loop1 (F N) n ((i : Int) + 1)) (r (i + 1) rest) → Evl (fun N n _ => F N (loop1 (F N) n) (i : Int)) (r i (e :: rest)))
    (i : Nat) (hi : i ≤ q) : Evl (fun N _ _ => loop1 (F N) N (i : Int)) (r i ((l.take q).drop i)) := by
  have hl : (l.take q).length = q := by simp; omega
  refine range1 (l.take q) (by omega) r (by rw [hl]; exact h0) (fun i e rest a1 a2 a3 a4 a5 a6 => ?_) i (by omega)
  rw [hl] at a2 a3
  refine h1 i e rest a1 a2 a3 ?_ a5 a6
  rw [ix_cast] at a4 ⊢
  rwa [List.getElem?_take_of_lt a2] at a4

theorem rangeTo2 {β ρ : Type} {F : Nat → Nat → (Int → Option ρ) → Int → Option ρ} (l : List β) (q : Nat) (hq : q ≤ l.length) (hb : q < 4611686018427387904) (r : Nat → List β → ρ)
    (h0 : Evl (fun N n k => F N n (loop1 (F N n) k) (q : Int)) (r q []))
    (h1 : ∀ (i : Nat) e rest, (l.take q).drop i = e :: rest → i < q → decide ((i : Int) < (q : Int)) = true → ix l (i : Int) = some e → i64in ((i : Int) + 1) → Evl (fun N n k => loop1 (F N n) k ((i : Int) + 1)) (r (i + 1) rest) → Evl (fun N n k => F N n (loop1 (F N n) k) (i : Int)) (r i (e :: rest)))
    (i : Nat) (hi : i ≤ q) : Evl (fun N n _ => loop1 (F N n) N (i : Int)) (r i ((l.take q).drop i)) := by
  have hl : (l.take q).length = q := by simp; omega
  refine range2 (l.take q) (by omega) r (by rw [hl]; exact h0) (fun i e rest a1 a2 a3 a4 a5 a6 => ?_) i (by omega)
  rw [hl] at a2 a3
  refine h1 i e rest a1 a2 a3 ?_ a5 a6
  rw [ix_cast] at a4 ⊢
  rwa [List.getElem?_take_of_lt a2] at a4


end Go.Proofs.YtfblfapkpieckaaDoor.W
namespace Go.Proofs.YtfblfapkpieckaaDoor.W
open Go
set_option linter.unusedSimpArgs false
set_option linter.unusedVariables false

def resl : List (List UInt8) := [[119, 105, 116, 104, 105, 110], [98, 121], [97, 110, 100], [111, 114], [110, 111, 116], [97, 110, 121], [110, 101, 120, 116], [115, 116, 114, 105, 99, 116], [116, 114, 117, 101], [102, 97, 108, 115, 101]]
def resv (s : List UInt8) : Bool := resl.any (s == ·)
theorem ite_or (b r : Bool) : (if b = true then some true else some r) = some (b || r) := by cases b <;> rfl

theorem e_schema_Reserved (s : List UInt8) : EvN (fun N => s_schema_Reserved N s) (resv s) := by
  refine EvN.some fun N => ?_
  unfold s_schema_Reserved
  simp only [resv, resl, List.any_cons, List.any_nil, ite_or]

theorem e_ref06_Reserved (s : List UInt8) : EvN (fun N => s_ref06_Reserved N s) (resv s) := by
  refine evN ?_
  have := range1 (F := fun N => s_ref06_Reserved_1 N s) resl (by decide) (fun _ rest => rest.any (s == ·)) ?_ ?_ 0 (by decide)
  · exact this
  · simp only [s_ref06_Reserved_1, resl, List.length]
    exact Evl.ret _
  · intro i e rest hd hlt hdec hix hin ih
    have hdec' : decide ((i : Int) < 10) = true := hdec
    simp only [resl] at hix
    simp only [s_ref06_Reserved_1, hdec', hix, if_true, Option.bind_some, hin, List.any_cons]
    rw [show (e == s) = (s == e) from BEq.comm]
    by_cases h : (s == e) = true
    · simp only [h, if_true, Bool.true_or]; exact Evl.ret _
    · have h := eq_false_of_ne_true h
      simp only [h, Bool.false_or]; exact ih

def ltr (c : UInt8) : Bool := decide (97 ≤ c.toNat) && decide (c.toNat ≤ 122)
def tl (c : UInt8) : Bool := ltr c || (decide (48 ≤ c.toNat) && decide (c.toNat ≤ 57)) || decide (c.toNat = 95)
def nm : List UInt8 → Bool
  | [] => false
  | c :: t => decide ((c :: t).length ≤ 12) && (ltr c && (!resv (c :: t) && t.all tl))

theorem e_schema_letter (c : UInt8) : EvN (fun N => s_schema_letter N (UInt8.toNat c : Int)) (ltr c) := by
  refine EvN.some fun N => ?_
  unfold s_schema_letter ltr
  by_cases h : 97 ≤ c.toNat
  · have h' : decide ((97 : Int) ≤ (c.toNat : Int)) = true := decide_eq_true (by omega)
    simp only [h', if_true, decide_eq_true h, Bool.true_and]
    congr 1; simp only [decide_eq_decide]; omega
  · have h' : decide ((97 : Int) ≤ (c.toNat : Int)) = false := decide_eq_false (by omega)
    simp [h', h]

theorem e_schema_tail (c : UInt8) : EvN (fun N => s_schema_tail N (UInt8.toNat c : Int)) (tl c) := by
  refine evN ?_
  unfold s_schema_tail
  refine Evl.call (e_schema_letter c) ?_
  by_cases h : ltr c = true
  · simp only [h, if_true, tl, Bool.true_or]; exact Evl.ret _
  · have h := eq_false_of_ne_true h
    have e : (((c.toNat : Int) == 95) : Bool) = decide (c.toNat = 95) := by
      rw [Bool.eq_iff_iff]; simp; omega
    by_cases h1 : 48 ≤ c.toNat
    · by_cases h2 : c.toNat ≤ 57
      · have a1 : decide ((48 : Int) ≤ (c.toNat : Int)) = true := decide_eq_true (by omega)
        have a2 : decide ((c.toNat : Int) ≤ (57 : Int)) = true := decide_eq_true (by omega)
        simp only [h, a1, a2, if_true, if_false, tl, h1, h2, decide_true, Bool.true_or, Bool.false_or, Bool.and_true]; exact Evl.ret _
      · have a1 : decide ((48 : Int) ≤ (c.toNat : Int)) = true := decide_eq_true (by omega)
        have a2 : decide ((c.toNat : Int) ≤ (57 : Int)) = false := decide_eq_false (by omega)
        simp only [h, a1, a2, if_true, if_false, tl, h1, h2, decide_true, decide_false, Bool.false_or, Bool.and_false, e]; exact Evl.ret _
    · have a1 : decide ((48 : Int) ≤ (c.toNat : Int)) = false := decide_eq_false (by omega)
      simp only [h, a1, if_false, tl, h1, decide_false, Bool.false_or, Bool.false_and, e]; exact Evl.ret _

theorem e_schema_Name (s : List UInt8) : EvN (fun N => s_schema_Name N s) (nm s) := by
  refine evN ?_
  unfold s_schema_Name
  cases s with
  | nil => exact Evl.ret _
  | cons c t =>
    have e0 : ((c :: t) == ([] : List UInt8)) = false := rfl
    by_cases hl : (c :: t).length ≤ 12
    · have e1 : decide (((c :: t).length : Int) > 12) = false := decide_eq_false (by omega)
      have e2 : ix (c :: t) 0 = some c := rfl
      simp only [e0, e1, e2, if_false, Option.bind_some, nm, hl, decide_true, Bool.true_and]
      refine Evl.call (e_schema_letter c) ?_
      by_cases h : ltr c = true
      · simp only [h, if_true, Bool.true_and]
        refine Evl.call (e_schema_Reserved _) ?_
        by_cases h2 : resv (c :: t) = true
        · simp only [h2, if_true]; exact Evl.ret _
        · have h2 := eq_false_of_ne_true h2
          simp only [h2, if_false, Bool.not_false, Bool.true_and]
          have := range1 (F := fun N => s_schema_Name_1 N (c :: t)) (c :: t) (by omega) (fun _ rest => rest.all tl) ?_ ?_ 1 (by simp)
          · exact this
          · simp only [s_schema_Name_1, Int.lt_irrefl, decide_false, if_false]; exact Evl.ret _
          · intro i e rest hd hlt hdec hix hin ih
            simp only [s_schema_Name_1, hdec, hix, if_true, Option.bind_some, hin]
            refine Evl.call (e_schema_tail e) ?_
            by_cases h : tl e = true
            · simp only [h, if_true, List.all_cons, Bool.true_and]; exact ih
            · have h := eq_false_of_ne_true h
              simp only [h, if_false, List.all_cons, Bool.false_and]; exact Evl.ret _
      · have h := eq_false_of_ne_true h
        simp only [h, if_false, Bool.false_and]; exact Evl.ret _
    · have e1 : decide (((c :: t).length : Int) > 12) = true := decide_eq_true (by omega)
      simp only [e0, e1, if_true, if_false, nm, hl, decide_false, Bool.false_and]; exact Evl.ret _

def nmr : Nat → List UInt8 → Bool
  | 0, c :: t => ltr c && t.all tl
  | 0, [] => true
  | _ + 1, rest => rest.all tl
theorem nmr_cons (i : Nat) (e : UInt8) (rest : List UInt8) : nmr i (e :: rest) = (if (if i = 0 then ltr e else tl e) = true then rest.all tl else false) := by
  cases i with
  | zero => simp only [nmr, if_true]; cases ltr e <;> rfl
  | succ i => simp only [nmr, List.all_cons, Nat.succ_ne_zero, if_false]; cases tl e <;> rfl
theorem e_ref06_Name (s : List UInt8) : EvN (fun N => s_ref06_Name N s) (nm s) := by
  refine evN ?_
  unfold s_ref06_Name
  cases s with
  | nil => exact Evl.ret _
  | cons c t =>
    have e0 : decide (((c :: t).length : Int) < 1) = false := decide_eq_false (by simp; omega)
    by_cases hl : (c :: t).length ≤ 12
    · have e1 : decide (((c :: t).length : Int) > 12) = false := decide_eq_false (by omega)
      simp only [e0, e1, nm, hl, decide_true, Bool.true_and]
      refine Evl.call (e_ref06_Reserved _) ?_
      by_cases h2 : resv (c :: t) = true
      · simp only [h2, if_true, Bool.not_true, Bool.false_and, Bool.and_false]; exact Evl.ret _
      · have h2 := eq_false_of_ne_true h2
        simp only [h2, Bool.not_false, Bool.true_and]
        have := range1 (F := fun N => s_ref06_Name_1 N (c :: t)) (c :: t) (by omega) nmr ?_ ?_ 0 (by simp)
        · exact this
        · simp only [s_ref06_Name_1, Int.lt_irrefl, decide_false]; exact Evl.ret _
        · intro i e rest hd hlt hdec hix hin ih
          simp only [s_ref06_Name_1, hdec, hix, if_true, Option.bind_some, hin]
          have ih : Evl (fun N n _ => loop1 (s_ref06_Name_1 N (c :: t)) n ((i : Int) + 1)) (rest.all tl) := ih
          have hi0 : ((i : Int) == 0) = decide (i = 0) := by rw [Bool.eq_iff_iff]; simp
          have e95 : (((e.toNat : Int) == 95) : Bool) = decide (e.toNat = 95) := by rw [Bool.eq_iff_iff]; simp; omega
          have a1 : decide ((e.toNat : Int) ≥ 97) = decide (97 ≤ e.toNat) := by simp only [decide_eq_decide]; omega
          have a2 : decide ((e.toNat : Int) ≥ 48) = decide (48 ≤ e.toNat) := by simp only [decide_eq_decide]; omega
          have a3 : decide ((e.toNat : Int) ≤ 57) = decide (e.toNat ≤ 57) := by simp only [decide_eq_decide]; omega
          have a4 : decide ((e.toNat : Int) ≤ 122) = decide (e.toNat ≤ 122) := by simp only [decide_eq_decide]; omega
          simp only [hi0, e95, a1, a2, a3, a4]
          rw [nmr_cons]
          generalize rest.all tl = R at ih ⊢
          unfold tl ltr
          by_cases b0 : i = 0 <;> by_cases b1 : 97 ≤ e.toNat <;> by_cases b2 : 48 ≤ e.toNat <;> by_cases b3 : e.toNat ≤ 57 <;> by_cases b4 : e.toNat ≤ 122 <;> by_cases b5 : e.toNat = 95 <;>
            first | (exfalso; omega) | (simp only [b0, b1, b2, b3, b4, b5, decide_true, decide_false, if_true, if_false, Bool.true_and, Bool.and_true, Bool.false_and, Bool.and_false, Bool.true_or, Bool.or_true, Bool.false_or, Bool.or_false, reduceCtorEq]; first | exact ih | (subst b0; exact ih) | exact Evl.ret _)
    · have e1 : decide (((c :: t).length : Int) > 12) = true := decide_eq_true (by omega)
      simp only [e0, e1, if_true, nm, hl, decide_false, Bool.false_and]; exact Evl.ret _

end Go.Proofs.YtfblfapkpieckaaDoor.W
namespace Go.Proofs.YtfblfapkpieckaaDoor.W
open Go
set_option linter.unusedSimpArgs false
set_option linter.unusedVariables false

def wordO (k : Int) : List UInt8 := (s_value_Word 0 k).getD []
theorem e_value_Word (k : Int) : EvN (fun N => s_value_Word N k) (wordO k) := by
  refine EvN.some fun N => ?_
  unfold wordO s_value_Word
  repeat' split
  all_goals rfl
theorem e_ref04_Word (k : Int) : EvN (fun N => s_ref04_Word N k) (wordO k) := e_value_Word k

def fld (name : List UInt8) : Nat → List schema_Field → Int × Int
  | _, [] => (-1, 0)
  | i, f :: r => if f.Name == name then ((i : Int), f.Kind) else fld name (i + 1) r
theorem e_schema_Type_Field (t : schema_Type) (name : List UInt8) (hb : t.Fields.length ≤ 1000) : EvN (fun N => s_schema_Type_Field N t name) (fld name 0 t.Fields) := by
  refine evN ?_
  have := range1 (F := fun N => s_schema_Type_Field_1 N t name) t.Fields (by omega) (fld name) ?_ ?_ 0 (by omega)
  · exact this
  · simp only [s_schema_Type_Field_1, Int.lt_irrefl, decide_false]; exact Evl.ret _
  · intro i e rest hd hlt hdec hix hin ih
    simp only [s_schema_Type_Field_1, hdec, hix, if_true, Option.bind_some, hin, fld]
    by_cases h : (e.Name == name) = true
    · simp only [h, if_true]; exact Evl.ret _
    · have h := eq_false_of_ne_true h
      simp only [h]; exact ih

theorem fld_at (e : schema_Field) (rest : List schema_Field) : ∀ (pre : List schema_Field) (j : Nat),
    ((fld e.Name j (pre ++ e :: rest)).1 != ((j + pre.length : Nat) : Int)) = pre.any (fun f => f.Name == e.Name) ∧ (j : Int) ≤ (fld e.Name j (pre ++ e :: rest)).1
  | [], j => by simp [fld]
  | f :: pre, j => by
    obtain ⟨h1, h2⟩ := fld_at e rest pre (j + 1)
    by_cases h : (f.Name == e.Name) = true
    · simp only [List.cons_append, fld, h, if_true, List.any_cons, Bool.true_or, Int.le_refl, and_true, bne_iff_ne, ne_eq, List.length_cons]
      omega
    · have h := eq_false_of_ne_true h
      simp only [List.cons_append, fld, h, List.any_cons, Bool.false_or, List.length_cons, Bool.false_eq_true, if_false]
      refine ⟨?_, by omega⟩
      rw [← h1]
      congr 2
      omega

def cf : List schema_Field → List schema_Field → Int
  | _, [] => 0
  | pre, f :: r => if nm f.Name then (if wordO f.Kind == [] then 11 else if pre.any (fun g => g.Name == f.Name) then 21 else cf (pre ++ [f]) r) else 4
def one (t : schema_Type) : Int := if nm t.Name then (if decide ((t.Fields.length : Int) > 6) then 5 else cf [] t.Fields) else 4

theorem take_drop {α : Type} {l rest : List α} {i : Nat} {e : α} (h : l.drop i = e :: rest) : l = l.take i ++ e :: rest ∧ l.take (i + 1) = l.take i ++ [e] ∧ (l.take i).length = i := by
  have h1 : l = l.take i ++ e :: rest := by rw [← h]; exact (List.take_append_drop i l).symm
  have hi : i < l.length := by
    rcases Nat.lt_or_ge i l.length with h' | h'
    · exact h'
    · rw [List.drop_eq_nil_of_le h'] at h; cases h
  have h2 : (l.take i).length = i := by simp; omega
  refine ⟨h1, ?_, h2⟩
  have he : l[i]? = some e := by
    have : (l.drop i)[0]? = some e := by rw [h]; rfl
    simpa using this
  rw [List.take_add_one, he]; rfl

theorem e_schema_Type_check (t : schema_Type) : EvN (fun N => s_schema_Type_check N t) (one t) := by
  refine evN ?_
  unfold s_schema_Type_check one
  refine Evl.call (e_schema_Name _) ?_
  by_cases h1 : nm t.Name = true
  · simp only [h1, if_true]
    by_cases h2 : decide ((t.Fields.length : Int) > 6) = true
    · simp only [h2, if_true]; exact Evl.ret _
    · have h2 := eq_false_of_ne_true h2
      have hb : t.Fields.length ≤ 6 := by have := of_decide_eq_false h2; omega
      simp only [h2]
      have := range1 (F := fun N => s_schema_Type_check_1 N t) t.Fields (by omega) (fun i rest => cf (t.Fields.take i) rest) ?_ ?_ 0 (by omega)
      · exact this
      · simp only [s_schema_Type_check_1, Int.lt_irrefl, decide_false]; exact Evl.ret _
      · intro i e rest hd hlt hdec hix hin ih
        simp only [s_schema_Type_check_1, hdec, hix, if_true, Option.bind_some, hin, cf]
        obtain ⟨q1, q2, q3⟩ := take_drop hd
        rw [q2] at ih
        refine Evl.call (e_schema_Type_Field t e.Name (by omega)) ?_
        refine Evl.call (e_schema_Name _) ?_
        by_cases h3 : nm e.Name = true
        · simp only [h3, if_true]
          refine Evl.call (e_value_Word _) ?_
          by_cases h4 : (wordO e.Kind == []) = true
          · simp only [h4, if_true]; exact Evl.ret _
          · have h4 := eq_false_of_ne_true h4
            have h5 := (fld_at e rest (t.Fields.take i) 0).1
            rw [← q1, q3, Nat.zero_add] at h5
            simp only [h4, h5]
            by_cases h6 : ((t.Fields.take i).any fun f => f.Name == e.Name) = true
            · simp only [h6, if_true]; exact Evl.ret _
            · have h6 := eq_false_of_ne_true h6
              simp only [h6]; exact ih
        · have h3 := eq_false_of_ne_true h3
          simp only [h3]; exact Evl.ret _
  · have h1 := eq_false_of_ne_true h1
    simp only [h1]; exact Evl.ret _

theorem e_ref06_one (t : schema_Type) : EvN (fun N => s_ref06_one N t) (one t) := by
  refine evN ?_
  unfold s_ref06_one one
  refine Evl.call (e_ref06_Name _) ?_
  by_cases h1 : nm t.Name = true
  · simp only [h1, if_true]
    by_cases h2 : decide ((t.Fields.length : Int) > 6) = true
    · simp only [h2, if_true]; exact Evl.ret _
    · have h2 := eq_false_of_ne_true h2
      have hb : t.Fields.length ≤ 6 := by have := of_decide_eq_false h2; omega
      simp only [h2]
      have := range1 (F := fun N => s_ref06_one_1 N t) t.Fields (by omega) (fun i rest => cf (t.Fields.take i) rest) ?_ ?_ 0 (by omega)
      · exact this
      · simp only [s_ref06_one_1, Int.lt_irrefl, decide_false]; exact Evl.ret _
      · intro i e rest hd hlt hdec hix hin ih
        simp only [s_ref06_one_1, hdec, hix, if_true, Option.bind_some, hin, cf]
        obtain ⟨q1, q2, q3⟩ := take_drop hd
        rw [q2] at ih
        refine Evl.call (e_ref06_Name _) ?_
        by_cases h3 : nm e.Name = true
        · simp only [h3, if_true]
          refine Evl.call (e_ref04_Word _) ?_
          by_cases h4 : (wordO e.Kind == []) = true
          · simp only [h4, if_true]; exact Evl.ret _
          · have h4 := eq_false_of_ne_true h4
            simp only [h4]
            have := rangeTo2 (F := fun N n => s_ref06_one_2 N t i e (loop1 (s_ref06_one_1 N t) n)) t.Fields i (by omega) (by omega)
              (fun _ r => if (r.any fun f => f.Name == e.Name) = true then 21 else cf (t.Fields.take i ++ [e]) rest) ?_ ?_ 0 (by omega)
            · exact this
            · simp only [s_ref06_one_2, Int.lt_irrefl, decide_false, hin, if_true]; exact ih
            · intro k e2 rest2 hd2 hlt2 hdec2 hix2 hin2 ih2
              simp only [s_ref06_one_2, hdec2, hix2, if_true, Option.bind_some, hin2, List.any_cons]
              by_cases h6 : (e2.Name == e.Name) = true
              · simp only [h6, if_true, Bool.true_or]; exact Evl.ret _
              · have h6 := eq_false_of_ne_true h6
                simp only [h6, Bool.false_or]; exact ih2
        · have h3 := eq_false_of_ne_true h3
          simp only [h3]; exact Evl.ret _
  · have h1 := eq_false_of_ne_true h1
    simp only [h1]; exact Evl.ret _

def fnd (name : List UInt8) : List schema_Type → schema_Type × Bool
  | [] => (schema_Type.mk [] [], false)
  | t :: r => if t.Name == name then (t, true) else fnd name r
theorem fnd_any (name : List UInt8) : ∀ l, (fnd name l).2 = l.any fun t => t.Name == name
  | [] => rfl
  | t :: r => by
    by_cases h : (t.Name == name) = true
    · simp [fnd, h]
    · have h := eq_false_of_ne_true h
      simp [fnd, h, fnd_any name r]

theorem e_schema_Find (l : List schema_Type) (name : List UInt8) (hb : l.length ≤ 1000) (hf : ∀ t ∈ l, t.Fields.length ≤ 1000) : EvN (fun N => s_schema_Find N l name) (fnd name l) := by
  refine evN ?_
  have := range1 (F := fun N => s_schema_Find_1 N l name) l (by omega) (fun _ rest => fnd name rest) ?_ ?_ 0 (by omega)
  · exact this
  · simp only [s_schema_Find_1, Int.lt_irrefl, decide_false]; exact Evl.ret _
  · intro i e rest hd hlt hdec hix hin ih
    have hm : e ∈ l := by rw [(take_drop hd).1]; simp
    have h5 := hf e hm
    have hc : EvN (fun N => s_slices_Clone_schema_Field_own N e.Fields) e.Fields := EvN.some fun N => by unfold s_slices_Clone_schema_Field_own; rw [if_pos (by omega)]
    simp only [s_schema_Find_1, hdec, hix, if_true, Option.bind_some, hin, fnd]
    by_cases h : (e.Name == name) = true
    · simp only [h, if_true]
      refine Evl.call hc ?_
      obtain rfl := eq_of_beq h
      exact Evl.ret _
    · have h := eq_false_of_ne_true h
      simp only [h]; exact ih

theorem e_ref06_Find (l : List schema_Type) (name : List UInt8) (hb : l.length ≤ 1000) : EvN (fun N => s_ref06_Find N l name) (fnd name l) := by
  refine evN ?_
  have := range1 (F := fun N => s_ref06_Find_1 N l name) l (by omega) (fun _ rest => fnd name rest) ?_ ?_ 0 (by omega)
  · exact this
  · simp only [s_ref06_Find_1, Int.lt_irrefl, decide_false]; exact Evl.ret _
  · intro i e rest hd hlt hdec hix hin ih
    simp only [s_ref06_Find_1, hdec, hix, if_true, Option.bind_some, hin, fnd]
    by_cases h : (e.Name == name) = true
    · simp only [h, if_true]; exact Evl.ret _
    · have h := eq_false_of_ne_true h
      simp only [h]; exact ih

def ck : List schema_Type → List schema_Type → Int
  | _, [] => 0
  | pre, t :: r => if one t != 0 then one t else if pre.any (fun g => g.Name == t.Name) then 21 else ck (pre ++ [t]) r
def chk (l : List schema_Type) : Int := if decide ((l.length : Int) > 8) then 5 else ck [] l

theorem e_schema_Check (l : List schema_Type) (hf : ∀ t ∈ l, t.Fields.length ≤ 1000) : EvN (fun N => s_schema_Check N l) (chk l) := by
  refine evN ?_
  unfold s_schema_Check chk
  by_cases h2 : decide ((l.length : Int) > 8) = true
  · simp only [h2, if_true]; exact Evl.ret _
  · have h2 := eq_false_of_ne_true h2
    have hb : l.length ≤ 8 := by have := of_decide_eq_false h2; omega
    simp only [h2]
    have := range1 (F := fun N => s_schema_Check_1 N l) l (by omega) (fun i rest => ck (l.take i) rest) ?_ ?_ 0 (by omega)
    · exact this
    · simp only [s_schema_Check_1, Int.lt_irrefl, decide_false]; exact Evl.ret _
    · intro i e rest hd hlt hdec hix hin ih
      obtain ⟨q1, q2, q3⟩ := take_drop hd
      rw [q2] at ih
      have hg : 0 ≤ (i : Int) ∧ (i : Int) ≤ (l.length : Int) := by omega
      simp only [s_schema_Check_1, hdec, hix, if_true, Option.bind_some, hin, ck, hg, and_self, Int.toNat_natCast]
      refine Evl.call (e_schema_Type_check e) ?_
      by_cases h3 : (one e != 0) = true
      · simp only [h3, if_true]; exact Evl.ret _
      · have h3 := eq_false_of_ne_true h3
        simp only [h3]
        refine Evl.call (e_schema_Find (l.take i) e.Name (by omega) fun t ht => hf t (List.mem_of_mem_take ht)) ?_
        rw [fnd_any]
        by_cases h4 : ((l.take i).any fun t => t.Name == e.Name) = true
        · simp only [h4, if_true]; exact Evl.ret _
        · have h4 := eq_false_of_ne_true h4
          simp only [h4]; exact ih

theorem e_ref06_Check (l : List schema_Type) : EvN (fun N => s_ref06_Check N l) (chk l) := by
  refine evN ?_
  unfold s_ref06_Check chk
  by_cases h2 : decide ((l.length : Int) > 8) = true
  · simp only [h2, if_true]; exact Evl.ret _
  · have h2 := eq_false_of_ne_true h2
    have hb : l.length ≤ 8 := by have := of_decide_eq_false h2; omega
    simp only [h2]
    have := range1 (F := fun N => s_ref06_Check_1 N l) l (by omega) (fun i rest => ck (l.take i) rest) ?_ ?_ 0 (by omega)
    · exact this
    · simp only [s_ref06_Check_1, Int.lt_irrefl, decide_false]; exact Evl.ret _
    · intro i e rest hd hlt hdec hix hin ih
      obtain ⟨q1, q2, q3⟩ := take_drop hd
      rw [q2] at ih
      simp only [s_ref06_Check_1, hdec, hix, if_true, Option.bind_some, hin, ck]
      refine Evl.call (e_ref06_one e) ?_
      by_cases h3 : (one e != 0) = true
      · simp only [h3, if_true]; exact Evl.ret _
      · have h3 := eq_false_of_ne_true h3
        simp only [h3]
        have := rangeTo2 (F := fun N n => s_ref06_Check_2 N l i e (loop1 (s_ref06_Check_1 N l) n)) l i (by omega) (by omega)
          (fun _ r => if (r.any fun f => f.Name == e.Name) = true then 21 else ck (l.take i ++ [e]) rest) ?_ ?_ 0 (by omega)
        · exact this
        · simp only [s_ref06_Check_2, Int.lt_irrefl, decide_false, hin, if_true]; exact ih
        · intro k e2 rest2 hd2 hlt2 hdec2 hix2 hin2 ih2
          simp only [s_ref06_Check_2, hdec2, hix2, if_true, Option.bind_some, hin2, List.any_cons]
          by_cases h6 : (e2.Name == e.Name) = true
          · simp only [h6, if_true, Bool.true_or]; exact Evl.ret _
          · have h6 := eq_false_of_ne_true h6
            simp only [h6, Bool.false_or]; exact ih2

end Go.Proofs.YtfblfapkpieckaaDoor.W
namespace Go.Proofs.YtfblfapkpieckaaDoor.W
open Go
set_option linter.unusedSimpArgs false
set_option linter.unusedVariables false

theorem ncmp (a : Int) : compare a a = .eq := by simp [compare, compareOfLessAndEq]
theorem bcmp (a : Bool) : compare a.toNat a.toNat = .eq := by simp [compare, compareOfLessAndEq]

theorem nan_iff (n : Nat) : fcmpB .neq .f64 n n = decide (9218868437227405312 < n % 9223372036854775808) := by
  have h : FloatKind.f64.format = Ieee.double := rfl
  simp only [fcmpB, h, Ieee.Format.order, Ieee.Format.read]
  have e1 : Ieee.double.signWeight = 9223372036854775808 := by decide
  have e2 : Ieee.double.infRung = 9218868437227405312 := by decide
  have e3 : Ieee.double.binade = 4503599627370496 := by decide
  rw [e1, e2, e3]
  by_cases h1 : n % 9223372036854775808 < 4503599627370496
  · rw [if_pos h1, decide_eq_false (by omega)]; simp only [Ieee.Datum.order, ncmp]; rfl
  · by_cases h2 : n % 9223372036854775808 < 9218868437227405312
    · rw [if_neg h1, if_pos h2, decide_eq_false (by omega)]; simp only [Ieee.Datum.order, ncmp]; rfl
    · by_cases h3 : n % 9223372036854775808 = 9218868437227405312
      · rw [if_neg h1, if_neg h2, if_pos h3, decide_eq_false (by omega)]; simp only [Ieee.Datum.order, bcmp]; rfl
      · rw [if_neg h1, if_neg h2, if_neg h3, decide_eq_true (by omega)]; rfl

def cln (u : Int) : Int := if 9218868437227405312 < u.toNat % 9223372036854775808 then 9221120237041090560 else u
theorem e_real_Clean (u : Int) : EvN (fun N => s_real_Clean N u) (cln u) := by
  refine EvN.some fun N => ?_
  simp only [s_real_Clean, s_real_of, Option.bind_some, nan_iff, cln, decide_eq_true_eq]
  split <;> rfl

theorem e_ref03_Clean (u : Int) (h0 : 0 ≤ u) (h1 : u < 18446744073709551616) : EvN (fun N => s_ref03_Clean N u) (cln u) := by
  refine EvN.some fun N => ?_
  obtain ⟨n, rfl⟩ : ∃ n : Nat, u = (n : Int) := ⟨u.toNat, by omega⟩
  have d1 : Int.tdiv (n : Int) 4503599627370496 = ((n / 4503599627370496 : Nat) : Int) := rfl
  have w1 : IntKind.u64.wrap ((n / 4503599627370496 : Nat) : Int) = ((n / 4503599627370496 : Nat) : Int) := by
    rw [IntKind.wrap_u64]; omega
  have d2 : Int.tmod ((n / 4503599627370496 : Nat) : Int) 2048 = ((n / 4503599627370496 % 2048 : Nat) : Int) := rfl
  have w2 : IntKind.i64.wrap ((n / 4503599627370496 % 2048 : Nat) : Int) = ((n / 4503599627370496 % 2048 : Nat) : Int) := by
    rw [IntKind.wrap_i64]; omega
  have d3 : Int.tmod (n : Int) 4503599627370496 = ((n % 4503599627370496 : Nat) : Int) := rfl
  have hexp : s_ref03_Exp N n = some ((n / 4503599627370496 % 2048 : Nat) : Int) := by simp only [s_ref03_Exp, d1, w1, d2, w2]
  have hfrac : s_ref03_Frac N n = some ((n % 4503599627370496 : Nat) : Int) := by simp only [s_ref03_Frac, d3]
  have hk : ∃ k, s_ref03_Kind N n = some k ∧ (k == 5) = decide (9218868437227405312 < n % 9223372036854775808) := by
    simp only [s_ref03_Kind, hexp, hfrac, Option.bind_some]
    by_cases c1 : n / 4503599627370496 % 2048 = 2047
    · have c1' : (((n / 4503599627370496 % 2048 : Nat) : Int) == 2047) = true := by simp; omega
      by_cases c2 : n % 4503599627370496 = 0
      · have c2' : (((n % 4503599627370496 : Nat) : Int) != 0) = false := by simp; omega
        simp only [c1', c2', if_true]
        exact ⟨4, rfl, by symm; exact decide_eq_false (by omega)⟩
      · have c2' : (((n % 4503599627370496 : Nat) : Int) != 0) = true := by simp; omega
        simp only [c1', c2', if_true]
        exact ⟨5, rfl, by symm; exact decide_eq_true (by omega)⟩
    · have c1' : (((n / 4503599627370496 % 2048 : Nat) : Int) == 2047) = false := by simp; omega
      simp only [c1', Bool.false_eq_true, if_false]
      have hd : decide (9218868437227405312 < n % 9223372036854775808) = false := decide_eq_false (by omega)
      rw [hd]
      by_cases c3 : (((n / 4503599627370496 % 2048 : Nat) : Int) != 0) = true
      · simp only [c3, if_true]; exact ⟨3, rfl, rfl⟩
      · by_cases c4 : (((n % 4503599627370496 : Nat) : Int) != 0) = true
        · simp only [eq_false_of_ne_true c3, c4, if_true, Bool.false_eq_true, if_false]; exact ⟨2, rfl, rfl⟩
        · simp only [eq_false_of_ne_true c3, eq_false_of_ne_true c4, Bool.false_eq_true, if_false]; exact ⟨1, rfl, rfl⟩
  obtain ⟨k, hk1, hk2⟩ := hk
  simp only [s_ref03_Clean, hk1, hk2, Option.bind_some, cln, decide_eq_true_eq, Int.toNat_natCast]
  split <;> rfl

def vchk (v : value_Value) : Int :=
  if v.Kind = 1 then (if v.N < -4611686018427387904 ∨ 4611686018427387904 < v.N then 8 else if v.Bits = 0 ∧ v.Text = [] then 0 else 2)
  else if v.Kind = 2 then (if v.N < 0 ∨ 1 < v.N then 8 else if v.Bits = 0 ∧ v.Text = [] then 0 else 2)
  else if v.Kind = 3 then (if cln v.Bits ≠ v.Bits then 4 else if v.N = 0 ∧ v.Text = [] then 0 else 2)
  else if v.Kind = 4 then (if 24 < v.Text.length then 5 else if v.N = 0 ∧ v.Bits = 0 then 0 else 2)
  else 11

theorem e_ref04_Check (v : value_Value) (h0 : 0 ≤ v.Bits) (h1 : v.Bits < 18446744073709551616) : EvN (fun N => s_ref04_Check N v) (vchk v) := by
  have hc := e_ref03_Clean v.Bits h0 h1
  obtain ⟨K, hc⟩ := hc
  refine ⟨K, fun N hN => ?_⟩
  have hc := hc N hN
  simp only [s_ref04_Check, hc, Option.bind_some, vchk]
  by_cases k1 : v.Kind = 1
  · simp [k1]; repeat' split
    all_goals first | rfl | (exfalso; omega) | simp_all
  · by_cases k2 : v.Kind = 2
    · simp [k2]; repeat' split
      all_goals first | rfl | (exfalso; omega) | simp_all
    · by_cases k3 : v.Kind = 3
      · simp [k3]; repeat' split
        all_goals first | rfl | (exfalso; omega) | simp_all
      · by_cases k4 : v.Kind = 4
        · simp [k4]; repeat' split
          all_goals first | rfl | (exfalso; omega) | simp_all
        · simp [k1, k2, k3, k4]; repeat' split
          all_goals first | rfl | (exfalso; omega) | (intros; omega) | simp_all

theorem e_value_Check (v : value_Value) : EvN (fun N => s_value_Check N v) (vchk v) := by
  have hc := e_real_Clean v.Bits
  obtain ⟨K, hc⟩ := hc
  refine ⟨K, fun N hN => ?_⟩
  have hc := hc N hN
  simp only [s_value_Check, s_value_core, vchk]
  by_cases k1 : v.Kind = 1
  · simp [k1, U_value_holds.el, s_value_number_whole]; repeat' split
    all_goals first | rfl | (exfalso; omega) | simp_all [eq_comm]
  · by_cases k2 : v.Kind = 2
    · simp [k2, U_value_holds.el, s_value_flag_whole]; repeat' split
      all_goals first | rfl | (exfalso; omega) | simp_all [eq_comm]
    · by_cases k3 : v.Kind = 3
      · simp [k3, U_value_holds.el, s_value_double_whole, hc]; repeat' split
        all_goals first | rfl | (exfalso; omega) | simp_all [eq_comm]
      · by_cases k4 : v.Kind = 4
        · simp [k4, U_value_holds.el, s_value_words_whole]; repeat' split
          all_goals first | rfl | (exfalso; omega) | simp_all [eq_comm]
        · simp [k1, k2, k3, k4, U_value_holds.el]

def vok (v : value_Value) : Prop := 0 ≤ v.Bits ∧ v.Bits < 18446744073709551616
def fits : List value_Value → List schema_Field → Int
  | v :: r, f :: q => if vchk v != 0 then vchk v else if v.Kind != f.Kind then 19 else fits r q
  | _, _ => 0
def fit (t : schema_Type) (l : List value_Value) : Int := if ((l.length : Int) != (t.Fields.length : Int)) then 5 else fits l t.Fields

theorem drop_len {α β : Type} {l : List α} {q : List β} (hl : l.length = q.length) {i : Nat} {e : α} {rest : List α} (h : l.drop i = e :: rest) : ∃ f rest2, q.drop i = f :: rest2 ∧ q.drop (i + 1) = rest2 ∧ ix q (i : Int) = some f := by
  have hi : i < q.length := by
    rcases Nat.lt_or_ge i l.length with h' | h'
    · omega
    · rw [List.drop_eq_nil_of_le h'] at h; cases h
  exact ⟨q[i], _, List.drop_eq_getElem_cons hi, rfl, by rw [ix_cast]; exact List.getElem?_eq_getElem hi⟩

theorem e_schema_Fits (t : schema_Type) (l : List value_Value) (hb : l.length ≤ 1000) : EvN (fun N => s_schema_Fits N t l) (fit t l) := by
  refine evN ?_
  unfold s_schema_Fits fit
  by_cases h2 : ((l.length : Int) != (t.Fields.length : Int)) = true
  · simp only [h2, if_true]; exact Evl.ret _
  · have h2 := eq_false_of_ne_true h2
    have hl : l.length = t.Fields.length := by have := bne_eq_false_iff_eq.1 h2; omega
    simp only [h2]
    have := range1 (F := fun N => s_schema_Fits_1 N t l) l (by omega) (fun i rest => fits rest (t.Fields.drop i)) ?_ ?_ 0 (by omega)
    · exact this
    · simp only [s_schema_Fits_1, Int.lt_irrefl, decide_false, fits]; exact Evl.ret _
    · intro i e rest hd hlt hdec hix hin ih
      obtain ⟨f, rest2, q1, q2, q3⟩ := drop_len hl hd
      rw [q2] at ih
      simp only [s_schema_Fits_1, hdec, hix, if_true, Option.bind_some, hin, q1, fits, q3]
      refine Evl.call (e_value_Check e) ?_
      by_cases h3 : (vchk e != 0) = true
      · simp only [h3, if_true]; exact Evl.ret _
      · have h3 := eq_false_of_ne_true h3
        simp only [h3]
        by_cases h4 : (e.Kind != f.Kind) = true
        · simp only [h4, if_true]; exact Evl.ret _
        · have h4 := eq_false_of_ne_true h4
          simp only [h4]; exact ih

theorem e_ref06_Fits (t : schema_Type) (l : List value_Value) (hb : l.length ≤ 1000) (hv : ∀ v ∈ l, vok v) : EvN (fun N => s_ref06_Fits N t l) (fit t l) := by
  refine evN ?_
  unfold s_ref06_Fits fit
  by_cases h2 : ((l.length : Int) != (t.Fields.length : Int)) = true
  · simp only [h2, if_true]; exact Evl.ret _
  · have h2 := eq_false_of_ne_true h2
    have hl : l.length = t.Fields.length := by have := bne_eq_false_iff_eq.1 h2; omega
    simp only [h2]
    have := range1 (F := fun N => s_ref06_Fits_1 N t l) l (by omega) (fun i rest => fits rest (t.Fields.drop i)) ?_ ?_ 0 (by omega)
    · exact this
    · simp only [s_ref06_Fits_1, Int.lt_irrefl, decide_false, fits]; exact Evl.ret _
    · intro i e rest hd hlt hdec hix hin ih
      obtain ⟨f, rest2, q1, q2, q3⟩ := drop_len hl hd
      have hm : e ∈ l := by rw [(take_drop hd).1]; simp
      rw [q2] at ih
      simp only [s_ref06_Fits_1, hdec, hix, if_true, Option.bind_some, hin, q1, fits, q3]
      refine Evl.call (e_ref04_Check e (hv e hm).1 (hv e hm).2) ?_
      by_cases h3 : (vchk e != 0) = true
      · simp only [h3, if_true]; exact Evl.ret _
      · have h3 := eq_false_of_ne_true h3
        simp only [h3]
        by_cases h4 : (e.Kind != f.Kind) = true
        · simp only [h4, if_true]; exact Evl.ret _
        · have h4 := eq_false_of_ne_true h4
          simp only [h4]; exact ih

/-- What is beyond what a statement takes. -/
def tbig (t : schema_Type) : Bool := decide (40 < t.Name.length) || decide (12 < t.Fields.length) || t.Fields.any fun f => decide (40 < f.Name.length)
def ovr (l : List schema_Type) : Int := if 12 < l.length then 1 else if l.any tbig then 1 else 0

theorem e_law06_Over (l : List schema_Type) : EvN (fun N => s_law06_Over N l) (ovr l) := by
  refine evN ?_
  unfold s_law06_Over ovr
  by_cases h1 : 12 < l.length
  · have h1' : decide ((l.length : Int) > 12) = true := decide_eq_true (by omega)
    simp only [h1, h1', if_true]; exact Evl.ret _
  · have h1' : decide ((l.length : Int) > 12) = false := decide_eq_false (by omega)
    simp only [h1, h1', if_false]
    have := range1 (F := fun N => s_law06_Over_1 N l) l (by omega) (fun i rest => if rest.any tbig then 1 else 0) ?_ ?_ 0 (by omega)
    · exact this
    · simp only [s_law06_Over_1, Int.lt_irrefl, decide_false]; exact Evl.ret _
    · intro i e rest hd hlt hdec hix hin ih
      simp only [s_law06_Over_1, hdec, hix, if_true, Option.bind_some, hin, List.any_cons]
      by_cases h2 : 40 < e.Name.length
      · have h2' : decide ((e.Name.length : Int) > 40) = true := decide_eq_true (by omega)
        simp only [h2', if_true, tbig, h2, decide_true, Bool.true_or]; exact Evl.ret _
      · have h2' : decide ((e.Name.length : Int) > 40) = false := decide_eq_false (by omega)
        by_cases h3 : 12 < e.Fields.length
        · have h3' : decide ((e.Fields.length : Int) > 12) = true := decide_eq_true (by omega)
          simp only [h2', h3', if_true, tbig, h3, decide_true, Bool.true_or, Bool.or_true]; exact Evl.ret _
        · have h3' : decide ((e.Fields.length : Int) > 12) = false := decide_eq_false (by omega)
          simp only [h2', h3']
          have := range2 (F := fun N n => s_law06_Over_2 N i e (loop1 (s_law06_Over_1 N l) n)) e.Fields (by omega)
            (fun _ r => if (r.any fun f => decide (40 < f.Name.length)) || rest.any tbig then 1 else 0) ?_ ?_ 0 (by omega)
          · simp only [tbig, h2, h3, decide_false, Bool.false_or]; exact this
          · simp only [s_law06_Over_2, Int.lt_irrefl, decide_false, hin, if_true]; exact ih
          · intro k e2 rest2 hd2 hlt2 hdec2 hix2 hin2 ih2
            simp only [s_law06_Over_2, hdec2, hix2, if_true, Option.bind_some, hin2, List.any_cons]
            by_cases h6 : 40 < e2.Name.length
            · have h6' : decide ((e2.Name.length : Int) > 40) = true := decide_eq_true (by omega)
              simp only [h6, h6', decide_true, if_true, Bool.true_or]; exact Evl.ret _
            · have h6' : decide ((e2.Name.length : Int) > 40) = false := decide_eq_false (by omega)
              simp only [h6, h6', decide_false, Bool.false_or]; exact ih2

theorem ovr_ok {l : List schema_Type} (h : decide (ovr l > 0) = false) : l.length ≤ 12 ∧ ∀ t ∈ l, t.Fields.length ≤ 12 := by
  unfold ovr at h
  by_cases h1 : 12 < l.length
  · simp [h1] at h
  · by_cases h2 : l.any tbig = true
    · simp [h1, h2] at h
    · refine ⟨by omega, fun t ht => ?_⟩
      have := List.any_eq_false.1 (eq_false_of_ne_true h2) t ht
      simp [tbig] at this
      omega

end Go.Proofs.YtfblfapkpieckaaDoor.W
namespace Go.Proofs.YtfblfapkpieckaaDoor.W
open Go
set_option linter.unusedSimpArgs false
set_option linter.unusedVariables false

theorem e_law06_Own (l : List schema_Type) (hb : l.length ≤ 1000) (hf : ∀ t ∈ l, t.Fields.length ≤ 1000) : EvN (fun N => s_law06_Own N l) l := by
  refine evN ?_
  refine ev1_loop2 (F := fun N => s_law06_Own_1 N l) (fun i ys => ∃ j : Nat, i = (j : Int) ∧ j ≤ l.length ∧ ys = l.take j) (fun i _ => l.length - i.toNat) (fun _ _ => l) (fun i ys ⟨j, hi, hj, hys⟩ ih => ?_) 0 [] ⟨0, rfl, by omega, rfl⟩
  subst hi hys
  rcases drop_cases l j hj with ⟨e, hd⟩ | ⟨e, rest, hlt, hd, hd', he⟩
  · subst e
    simp only [s_law06_Own_1, Int.lt_irrefl, decide_false, List.take_length]; exact Evl.ret _
  · have hdec : decide ((j : Int) < (l.length : Int)) = true := decide_eq_true (by omega)
    have hix : ix l (j : Int) = some e := by rw [ix_cast, he]
    have hin : i64in ((j : Int) + 1) := by unfold i64in; omega
    obtain ⟨q1, q2, q3⟩ := take_drop hd
    have hm : e ∈ l := by rw [q1]; simp
    have h5 := hf e hm
    simp only [s_law06_Own_1, hdec, hix, if_true, Option.bind_some]
    refine ev2_loop2 (F := fun N n => s_law06_Own_2 N (j : Int) (l.take j) e (loop2 (s_law06_Own_1 N l) n)) (fun i ys => ∃ k : Nat, i = (k : Int) ∧ k ≤ e.Fields.length ∧ ys = e.Fields.take k) (fun i _ => e.Fields.length - i.toNat) (fun _ _ => l) (fun i ys ⟨k, hi, hk, hys⟩ ih2 => ?_) 0 [] ⟨0, rfl, by omega, rfl⟩
    subst hi hys
    rcases drop_cases e.Fields k hk with ⟨e0, hd0⟩ | ⟨f, rest0, hlt0, hd0, hd0', he0⟩
    · subst e0
      have hg : ((l.take j).length + 1) * 40 ≤ 140737488355328 := by omega
      simp only [s_law06_Own_2, Int.lt_irrefl, decide_false, List.take_length, hg, hin, if_true]
      have := ih ((j : Int) + 1) (l.take j ++ [e]) ⟨j + 1, by simp, by omega, q2.symm⟩ (by omega)
      exact this
    · have hdec0 : decide ((k : Int) < (e.Fields.length : Int)) = true := decide_eq_true (by omega)
      have hix0 : ix e.Fields (k : Int) = some f := by rw [ix_cast, he0]
      have hin0 : i64in ((k : Int) + 1) := by unfold i64in; omega
      obtain ⟨p1, p2, p3⟩ := take_drop hd0
      have hg : ((e.Fields.take k).length + 1) * 24 ≤ 140737488355328 := by omega
      simp only [s_law06_Own_2, hdec0, hix0, if_true, Option.bind_some, hg, hin0]
      exact ih2 ((k : Int) + 1) (e.Fields.take k ++ [f]) ⟨k + 1, by simp, by omega, p2.symm⟩ (by omega)

theorem e_law06_Back (l : List schema_Type) (hb : l.length ≤ 1000) (hf : ∀ t ∈ l, t.Fields.length ≤ 1000) : EvN (fun N => s_law06_Back N l) l := e_law06_Own l hb hf

theorem e_law06_Vals (l : List value_Value) (hb : l.length ≤ 1000) : EvN (fun N => s_law06_Vals N l) l := by
  refine evN ?_
  refine ev1_loop2 (F := fun N => s_law06_Vals_1 N l) (fun i ys => ∃ j : Nat, i = (j : Int) ∧ j ≤ l.length ∧ ys = l.take j) (fun i _ => l.length - i.toNat) (fun _ _ => l) (fun i ys ⟨j, hi, hj, hys⟩ ih => ?_) 0 [] ⟨0, rfl, by omega, rfl⟩
  subst hi hys
  rcases drop_cases l j hj with ⟨e, hd⟩ | ⟨e, rest, hlt, hd, hd', he⟩
  · subst e
    simp only [s_law06_Vals_1, Int.lt_irrefl, decide_false, List.take_length]; exact Evl.ret _
  · have hdec : decide ((j : Int) < (l.length : Int)) = true := decide_eq_true (by omega)
    have hix : ix l (j : Int) = some e := by rw [ix_cast, he]
    have hin : i64in ((j : Int) + 1) := by unfold i64in; omega
    obtain ⟨q1, q2, q3⟩ := take_drop hd
    have hg : ((l.take j).length + 1) * 40 ≤ 140737488355328 := by omega
    simp only [s_law06_Vals_1, hdec, hix, if_true, Option.bind_some, hg, hin]
    exact ih ((j : Int) + 1) (l.take j ++ [e]) ⟨j + 1, by simp, by omega, q2.symm⟩ (by omega)

theorem e_law32_Back (g : gate_Gate) (hb : g.Types.length ≤ 1000) (hf : ∀ t ∈ g.Types, t.Fields.length ≤ 1000) (hl : g.L.length ≤ 1000) : EvN (fun N => s_law32_Back N g) g := by
  refine evN ?_
  unfold s_law32_Back
  refine Evl.call (e_law06_Back g.Types hb hf) ?_
  refine ev1_loop2 (F := fun N => s_law32_Back_1 N g g.Types) (fun i ys => ∃ j : Nat, i = (j : Int) ∧ j ≤ g.L.length ∧ ys = g.L.take j) (fun i _ => g.L.length - i.toNat) (fun _ _ => g) (fun i ys ⟨j, hi, hj, hys⟩ ih => ?_) 0 [] ⟨0, rfl, by omega, rfl⟩
  subst hi hys
  rcases drop_cases g.L j hj with ⟨e, hd⟩ | ⟨e, rest, hlt, hd, hd', he⟩
  · subst e
    simp only [s_law32_Back_1, Int.lt_irrefl, decide_false, List.take_length]; exact Evl.ret _
  · have hdec : decide ((j : Int) < (g.L.length : Int)) = true := decide_eq_true (by omega)
    have hix : ix g.L (j : Int) = some e := by rw [ix_cast, he]
    have hin : i64in ((j : Int) + 1) := by unfold i64in; omega
    obtain ⟨q1, q2, q3⟩ := take_drop hd
    have hg : ((g.L.take j).length + 1) * 24 ≤ 140737488355328 := by omega
    simp only [s_law32_Back_1, hdec, hix, if_true, Option.bind_some, hg, hin]
    exact ih ((j : Int) + 1) (g.L.take j ++ [e]) ⟨j + 1, by simp, by omega, q2.symm⟩ (by omega)

theorem e_law07_Own (e : event_Event) (hb : e.Vals.length ≤ 1000) : EvN (fun N => s_law07_Own N e) e := by
  refine evN ?_
  unfold s_law07_Own
  exact Evl.call (e_law06_Vals e.Vals hb) (Evl.ret e)

def vbig (v : value_Value) : Bool := decide (100 < v.Text.length)
def ebig (e : event_Event) : Bool := decide (40 < e.Type_.length) || decide (12 < e.Vals.length) || e.Vals.any vbig
/-- What is told of one event: whether it is beyond what a statement takes. The texts are as long as a text may be. -/
theorem e_law07_Over (e : event_Event) (ht : ∀ v ∈ e.Vals, v.Text.length ≤ 9223372036854775807) : EvN (fun N => s_law07_Over N [e] 1) (if ebig e then 1 else 0) := by
  refine evN ?_
  have h1 : decide ((([e] : List event_Event).length : Int) > 1) = false := rfl
  unfold s_law07_Over
  simp only [h1]
  have := range1 (F := fun N => s_law07_Over_1 N [e]) [e] (by simp) (fun i rest => if rest.any ebig then (1 : Int) else 0) ?_ ?_ 0 (by simp)
  · simpa using this
  · simp only [s_law07_Over_1, Int.lt_irrefl, decide_false]; exact Evl.ret _
  · intro i e' rest hd hlt hdec hix hin ih
    have hmem : e' = e := by have : e' ∈ [e] := by rw [(take_drop hd).1]; simp
                             simpa using this
    subst hmem
    simp only [s_law07_Over_1, hdec, hix, if_true, Option.bind_some, hin, List.any_cons]
    by_cases h2 : 40 < e'.Type_.length
    · have h2' : decide ((e'.Type_.length : Int) > 40) = true := decide_eq_true (by omega)
      simp only [h2', if_true, ebig, h2, decide_true, Bool.true_or]; exact Evl.ret _
    · have h2' : decide ((e'.Type_.length : Int) > 40) = false := decide_eq_false (by omega)
      by_cases h3 : 12 < e'.Vals.length
      · have h3' : decide ((e'.Vals.length : Int) > 12) = true := decide_eq_true (by omega)
        simp only [h2', h3', if_true, ebig, h3, decide_true, Bool.true_or, Bool.or_true]; exact Evl.ret _
      · have h3' : decide ((e'.Vals.length : Int) > 12) = false := decide_eq_false (by omega)
        simp only [h2', h3']
        have := range2 (F := fun N n => s_law07_Over_2 N i e' (loop1 (s_law07_Over_1 N [e']) n)) e'.Vals (by omega)
          (fun _ r => if (r.any vbig) || rest.any ebig then (1 : Int) else 0) ?_ ?_ 0 (by omega)
        · simp only [ebig, h2, h3, decide_false, Bool.false_or]; exact this
        · simp only [s_law07_Over_2, Int.lt_irrefl, decide_false, hin, if_true]; exact ih
        · intro k e2 rest2 hd2 hlt2 hdec2 hix2 hin2 ih2
          have hm2 : e2 ∈ e'.Vals := by rw [(take_drop hd2).1]; simp
          have ht2 := ht e2 hm2
          have hs : ∀ N, s_law04_Small N e2 = some (max 0 ((e2.Text.length : Int) - 100)) := fun N => by
            unfold s_law04_Small; rw [if_pos (by unfold i64in; omega)]
          simp only [s_law07_Over_2, hdec2, hix2, if_true, Option.bind_some, hin2, List.any_cons, hs]
          by_cases h6 : 100 < e2.Text.length
          · have h6' : decide (max 0 ((e2.Text.length : Int) - 100) > 0) = true := decide_eq_true (by omega)
            simp only [vbig, h6, h6', decide_true, if_true, Bool.true_or]; exact Evl.ret _
          · have h6' : decide (max 0 ((e2.Text.length : Int) - 100) > 0) = false := decide_eq_false (by omega)
            have hv : vbig e2 = false := decide_eq_false h6
            simp only [hv, h6', Bool.false_or]; exact ih2

def mayID (t s q : Int) : Bool := decide (0 ≤ t ∧ t ≤ 1099511627776 ∧ 0 ≤ s ∧ s < 16 ∧ 0 ≤ q ∧ q ≤ 1099511627776)
def evc (types : List schema_Type) (e : event_Event) : Int :=
  if chk types != 0 then 2 else if mayID e.Time e.Source e.Seq then (if (fnd e.Type_ types).2 then fit (fnd e.Type_ types).1 e.Vals else 6) else 8

theorem e_event_Check (types : List schema_Type) (e : event_Event) (hb : types.length ≤ 1000) (hf : ∀ t ∈ types, t.Fields.length ≤ 1000) (hv : e.Vals.length ≤ 1000) : EvN (fun N => s_event_Check N types e) (evc types e) := by
  refine evN ?_
  unfold s_event_Check evc
  refine Evl.call (e_schema_Check types hf) ?_
  by_cases h1 : (chk types != 0) = true
  · simp only [h1, if_true]; exact Evl.ret _
  · have h1 := eq_false_of_ne_true h1
    simp only [h1]
    have hm : ∀ N, s_event_ID_may N ⟨e.Time, e.Source, e.Seq⟩ = some (mayID e.Time e.Source e.Seq) := fun N => by
      simp only [s_event_ID_may, mayID]
      by_cases a1 : 0 ≤ e.Time <;> by_cases a2 : e.Time ≤ 1099511627776 <;> by_cases a3 : 0 ≤ e.Source <;> by_cases a4 : e.Source < 16 <;> by_cases a5 : 0 ≤ e.Seq <;> simp [a1, a2, a3, a4, a5]
    simp only [s_event_Event_ID, Option.bind_some, hm]
    by_cases h2 : mayID e.Time e.Source e.Seq = true
    · simp only [h2, if_true]
      refine Evl.call (e_schema_Find types e.Type_ hb hf) ?_
      by_cases h3 : (fnd e.Type_ types).2 = true
      · simp only [h3, if_true]
        exact Evl.call (e_schema_Fits _ _ hv) (Evl.ret _)
      · have h3 := eq_false_of_ne_true h3
        simp only [h3]; exact Evl.ret _
    · have h2 := eq_false_of_ne_true h2
      simp only [h2]; exact Evl.ret _

theorem e_ref07_Check (types : List schema_Type) (e : event_Event) (hb : types.length ≤ 1000) (hv : e.Vals.length ≤ 1000) (hk : ∀ v ∈ e.Vals, vok v) : EvN (fun N => s_ref07_Check N types e) (evc types e) := by
  refine evN ?_
  unfold s_ref07_Check evc
  refine Evl.call (e_ref06_Check types) ?_
  by_cases h1 : (chk types != 0) = true
  · simp only [h1, if_true]; exact Evl.ret _
  · have h1 := eq_false_of_ne_true h1
    simp only [h1]
    by_cases h2 : mayID e.Time e.Source e.Seq = true
    · have h2' := of_decide_eq_true h2
      have b1 : decide (e.Time < 0) = false := decide_eq_false (by omega)
      have b2 : decide (e.Time > 1099511627776) = false := decide_eq_false (by omega)
      have b3 : decide (e.Source < 0) = false := decide_eq_false (by omega)
      have b4 : decide (e.Source ≥ 16) = false := decide_eq_false (by omega)
      have b5 : decide (e.Seq < 0) = false := decide_eq_false (by omega)
      have b6 : decide (e.Seq > 1099511627776) = false := decide_eq_false (by omega)
      simp only [h2, b1, b2, b3, b4, b5, b6, if_true]
      refine Evl.call (e_ref06_Find types e.Type_ hb) ?_
      by_cases h3 : (fnd e.Type_ types).2 = true
      · simp only [h3, if_true]
        exact Evl.call (e_ref06_Fits _ _ hv hk) (Evl.ret _)
      · have h3 := eq_false_of_ne_true h3
        simp only [h3]; exact Evl.ret _
    · have h2' := of_decide_eq_false (eq_false_of_ne_true h2)
      have h2 := eq_false_of_ne_true h2
      by_cases a1 : e.Time < 0
      · simp only [h2, a1, decide_true, if_true]; exact Evl.ret _
      · by_cases a2 : e.Time > 1099511627776
        · simp only [h2, a1, a2, decide_true, decide_false, if_true]; exact Evl.ret _
        · by_cases a3 : e.Source < 0
          · simp only [h2, a1, a2, a3, decide_true, decide_false, if_true]; exact Evl.ret _
          · by_cases a4 : e.Source ≥ 16
            · simp only [h2, a1, a2, a3, a4, decide_true, decide_false, if_true]; exact Evl.ret _
            · by_cases a5 : e.Seq < 0
              · simp only [h2, a1, a2, a3, a4, a5, decide_true, decide_false, if_true]; exact Evl.ret _
              · by_cases a6 : e.Seq > 1099511627776
                · simp only [h2, a1, a2, a3, a4, a5, a6, decide_true, decide_false, if_true]; exact Evl.ret _
                · exfalso; omega

end Go.Proofs.YtfblfapkpieckaaDoor.W
namespace Go.Proofs.YtfblfapkpieckaaDoor.W
open Go
set_option linter.unusedSimpArgs false
set_option linter.unusedVariables false

def src0 : gate_Source := ⟨0, 0, false⟩
def src1 : gate_Source := ⟨0, -1, false⟩
def gnew (types : List schema_Type) (sources : Int) : gate_Gate × Int :=
  if chk types != 0 then (⟨[], []⟩, 2) else if sources < 1 then (⟨[], []⟩, 2) else if sources > 16 then (⟨[], []⟩, 2) else (⟨types, List.replicate sources.toNat src1⟩, 0)

theorem e_gate_New (types : List schema_Type) (sources : Int) (hb : types.length ≤ 1000) (hf : ∀ t ∈ types, t.Fields.length ≤ 1000) : EvN (fun N => s_gate_New N types sources) (gnew types sources) := by
  refine evN ?_
  unfold s_gate_New gnew
  refine Evl.call (e_schema_Check types hf) ?_
  by_cases h1 : (chk types != 0) = true
  · simp only [h1, if_true]; exact Evl.ret _
  · have h1 := eq_false_of_ne_true h1
    simp only [h1]
    by_cases h2 : sources < 1
    · simp only [h2, decide_true, if_true]; exact Evl.ret _
    · by_cases h3 : sources > 16
      · simp only [h2, h3, decide_true, decide_false, if_true]; exact Evl.ret _
      · have hc : EvN (fun N => s_slices_Clone_schema_Type N types) types := EvN.some fun N => by unfold s_slices_Clone_schema_Type; rw [if_pos (by omega)]
        obtain ⟨n, rfl⟩ : ∃ n : Nat, sources = (n : Int) := ⟨sources.toNat, by omega⟩
        have hg : 0 ≤ (n : Int) ∧ 24 * (n : Int) ≤ 281474976710656 := by omega
        simp only [h2, h3, decide_false]
        refine Evl.call hc ?_
        simp only [hg, and_self, if_true, Int.toNat_natCast, if_false]
        refine ev1_loop2 (F := fun N => s_gate_New_1 N (n : Int) types) (fun i ys => ∃ j : Nat, i = (j : Int) ∧ j ≤ n ∧ ys = List.replicate j src1 ++ List.replicate (n - j) src0) (fun i _ => n - i.toNat) (fun _ _ => (⟨types, List.replicate n src1⟩, 0)) (fun i ys ⟨j, hi, hj, hys⟩ ih => ?_) 0 _ ⟨0, rfl, by omega, rfl⟩
        subst hi hys
        by_cases hjn : j = n
        · subst hjn
          simp only [s_gate_New_1, Int.toNat_natCast, List.length_replicate, Int.lt_irrefl, decide_false, Nat.sub_self, List.replicate_zero, List.append_nil]; exact Evl.ret _
        · have hdec : decide ((j : Int) < (n : Int)) = true := decide_eq_true (by omega)
          have hin : i64in ((j : Int) + 1) := by unfold i64in; omega
          have hsp : List.replicate (n - j) src0 = src0 :: List.replicate (n - (j + 1)) src0 := by
            rw [show n - j = (n - (j + 1)) + 1 by omega]; rfl
          have hix : ix (List.replicate j src1 ++ List.replicate (n - j) src0) (j : Int) = some src0 := by
            rw [ix_cast, hsp, List.getElem?_append_right (by simp)]; simp
          have hset : List.set (List.replicate j src1 ++ List.replicate (n - j) src0) j src1 = List.replicate (j + 1) src1 ++ List.replicate (n - (j + 1)) src0 := by
            rw [hsp, List.set_append_right _ _ (by simp)]
            simp [List.replicate_succ']
          simp only [s_gate_New_1, Int.toNat_natCast, List.length_replicate, hdec, hix, if_true, Option.bind_some, hin]
          have h0 := ih ((j : Int) + 1) _ ⟨j + 1, by simp, by omega, rfl⟩ (by omega)
          rw [← hset] at h0
          exact h0

theorem e_ref32_New (types : List schema_Type) (sources : Int) : EvN (fun N => s_ref32_New N types sources) (gnew types sources) := by
  refine evN ?_
  unfold s_ref32_New gnew
  refine Evl.call (e_ref06_Check types) ?_
  by_cases h1 : (chk types != 0) = true
  · simp only [h1, if_true]; exact Evl.ret _
  · have h1 := eq_false_of_ne_true h1
    simp only [h1]
    by_cases h2 : sources < 1
    · simp only [h2, decide_true, if_true]; exact Evl.ret _
    · by_cases h3 : sources > 16
      · simp only [h2, h3, decide_true, decide_false, if_true]; exact Evl.ret _
      · obtain ⟨n, rfl⟩ : ∃ n : Nat, sources = (n : Int) := ⟨sources.toNat, by omega⟩
        simp only [h2, h3, decide_false, Int.toNat_natCast, if_false]
        refine ev1_loop2 (F := fun N => s_ref32_New_1 N types (n : Int)) (fun i ys => ∃ j : Nat, i = (j : Int) ∧ j ≤ n ∧ ys = List.replicate j src1) (fun i _ => n - i.toNat) (fun _ _ => (⟨types, List.replicate n src1⟩, 0)) (fun i ys ⟨j, hi, hj, hys⟩ ih => ?_) 0 _ ⟨0, rfl, by omega, rfl⟩
        subst hi hys
        by_cases hjn : j = n
        · subst hjn
          simp only [s_ref32_New_1, Int.lt_irrefl, decide_false]; exact Evl.ret _
        · have hdec : decide ((j : Int) < (n : Int)) = true := decide_eq_true (by omega)
          have hin : i64in ((j : Int) + 1) := by unfold i64in; omega
          have hg : ((List.replicate j src1).length + 1) * 24 ≤ 140737488355328 := by simp; omega
          simp only [s_ref32_New_1, hdec, hg, hin, if_true]
          have h0 := ih ((j : Int) + 1) _ ⟨j + 1, by simp, by omega, rfl⟩ (by omega)
          rw [List.replicate_succ'] at h0
          exact h0

def opn (g : gate_Gate) (s : Int) : gate_Source × Int :=
  if s < 0 then (src0, 17) else match g.L[s.toNat]? with
    | none => (src0, 17)
    | some e => if e.Closed then (src0, 20) else (e, 0)

theorem e_gate_open (g : gate_Gate) (s : Int) (N : Nat) : s_gate_Gate_open N g s = some (opn g s) := by
  unfold s_gate_Gate_open opn
  by_cases h1 : s < 0
  · simp only [h1, decide_true, if_true]; rfl
  · obtain ⟨n, rfl⟩ : ∃ n : Nat, s = (n : Int) := ⟨s.toNat, by omega⟩
    by_cases h2 : n < g.L.length
    · have h2' : decide ((n : Int) ≥ (g.L.length : Int)) = false := decide_eq_false (by omega)
      simp only [h1, h2', decide_false, ix_cast, Int.toNat_natCast, if_false]
      rw [List.getElem?_eq_getElem h2]
      cases h : g.L[n].Closed <;> simp [h] <;> rfl
    · have h2' : decide ((n : Int) ≥ (g.L.length : Int)) = true := decide_eq_true (by omega)
      simp only [h1, h2', decide_false, Int.toNat_natCast, if_true, if_false]
      rw [List.getElem?_eq_none (by omega)]; rfl

theorem e_ref32_open (g : gate_Gate) (s : Int) (N : Nat) : s_ref32_open N g s = some (opn g s).2 := by
  unfold s_ref32_open opn
  by_cases h1 : s < 0
  · simp only [h1, decide_true, if_true]
  · obtain ⟨n, rfl⟩ : ∃ n : Nat, s = (n : Int) := ⟨s.toNat, by omega⟩
    by_cases h2 : n < g.L.length
    · have h2' : decide ((n : Int) ≥ (g.L.length : Int)) = false := decide_eq_false (by omega)
      simp only [h1, h2', decide_false, ix_cast, Int.toNat_natCast, if_false]
      rw [List.getElem?_eq_getElem h2]
      cases h : g.L[n].Closed <;> simp [h]
    · have h2' : decide ((n : Int) ≥ (g.L.length : Int)) = true := decide_eq_true (by omega)
      simp only [h1, h2', decide_false, Int.toNat_natCast, if_true, if_false]
      rw [List.getElem?_eq_none (by omega)]; simp

theorem opn_ok {g : gate_Gate} {s : Int} (h : ((opn g s).2 != 0) = false) : 0 ≤ s ∧ ix g.L s = some (opn g s).1 ∧ (opn g s).1.Closed = false ∧ s.toNat < g.L.length := by
  unfold opn at h ⊢
  by_cases h1 : s < 0
  · simp [h1] at h
  · obtain ⟨n, rfl⟩ : ∃ n : Nat, s = (n : Int) := ⟨s.toNat, by omega⟩
    simp only [h1, if_false, Int.toNat_natCast, ix_cast] at h ⊢
    cases hx : g.L[n]? with
    | none => simp [hx] at h
    | some e =>
      rw [hx] at h
      cases hc : e.Closed
      · simp [hx, hc]
        exact (List.getElem?_eq_some_iff.1 hx).1
      · simp [hc] at h

def why (g : gate_Gate) (e : event_Event) : Int :=
  if evc g.Types e != 0 then evc g.Types e else if (opn g e.Source).2 != 0 then (opn g e.Source).2 else if decide (e.Time < (opn g e.Source).1.Front) then 13 else if decide (e.Seq ≤ (opn g e.Source).1.Last) then 12 else 0

structure gok (g : gate_Gate) : Prop where
  len : g.Types.length ≤ 1000
  fs : ∀ t ∈ g.Types, t.Fields.length ≤ 1000
  srcs : g.L.length ≤ 1000
structure eok (e : event_Event) : Prop where
  len : e.Vals.length ≤ 1000
  vs : ∀ v ∈ e.Vals, vok v

theorem e_gate_Why (g : gate_Gate) (e : event_Event) (hg : gok g) (he : eok e) : EvN (fun N => s_gate_Gate_Why N g e) (why g e) := by
  refine evN ?_
  unfold s_gate_Gate_Why why
  refine Evl.call (e_event_Check g.Types e hg.len hg.fs he.len) ?_
  by_cases h1 : (evc g.Types e != 0) = true
  · simp only [h1, if_true]; exact Evl.ret _
  · have h1 := eq_false_of_ne_true h1
    simp only [h1, e_gate_open, Option.bind_some]
    repeat' split
    all_goals first | exact Evl.ret _ | (exfalso; simp_all; done)

theorem e_ref32_Why (g : gate_Gate) (e : event_Event) (hg : gok g) (he : eok e) : EvN (fun N => s_ref32_Why N g e) (why g e) := by
  refine evN ?_
  unfold s_ref32_Why why
  refine Evl.call (e_ref07_Check g.Types e hg.len he.len he.vs) ?_
  by_cases h1 : (evc g.Types e != 0) = true
  · simp only [h1, if_true]; exact Evl.ret _
  · have h1 := eq_false_of_ne_true h1
    simp only [h1, e_ref32_open, Option.bind_some]
    by_cases h2 : ((opn g e.Source).2 != 0) = true
    · simp only [h2, if_true]; exact Evl.ret _
    · have h2 := eq_false_of_ne_true h2
      obtain ⟨q1, q2, q3, q4⟩ := opn_ok h2
      simp only [h2, q2, Option.bind_some]
      repeat' split
      all_goals first | exact Evl.ret _ | (exfalso; simp_all; done)

def acc (g : gate_Gate) (e : event_Event) : gate_Gate × Int :=
  if why g e != 0 then (g, why g e) else (⟨g.Types, g.L.set e.Source.toNat ⟨(opn g e.Source).1.Front, e.Seq, false⟩⟩, 0)
theorem why_ok {g : gate_Gate} {e : event_Event} (h : (why g e != 0) = false) : ((opn g e.Source).2 != 0) = false := by
  unfold why at h
  cases h1 : (evc g.Types e != 0)
  · cases h2 : ((opn g e.Source).2 != 0)
    · rfl
    · simp only [h1, h2, if_true, Bool.false_eq_true, if_false] at h; cases h
  · simp only [h1, if_true] at h; cases h

theorem clone_src (l : List gate_Source) (h : l.length ≤ 1000) (N : Nat) : s_slices_Clone_gate_Source_own N l = some l := by
  unfold s_slices_Clone_gate_Source_own; rw [if_pos (by omega)]

theorem e_gate_Accept (g : gate_Gate) (e : event_Event) (hg : gok g) (he : eok e) : EvN (fun N => s_gate_Gate_Accept N g e) (acc g e) := by
  refine evN ?_
  unfold s_gate_Gate_Accept acc
  refine Evl.call (e_gate_Why g e hg he) ?_
  by_cases h1 : (why g e != 0) = true
  · simp only [h1, if_true]; exact Evl.ret _
  · have h1 := eq_false_of_ne_true h1
    obtain ⟨q1, q2, q3, q4⟩ := opn_ok (why_ok h1)
    simp only [h1, s_gate_Gate_turn_v778, s_gate_Gate_Accept_L1_v149, clone_src g.L hg.srcs, Option.bind_some, q2, q3]
    exact Evl.ret _

theorem e_ref32_with (g : gate_Gate) (hg : gok g) (s : Int) (x y : gate_Source) (h : ix g.L s = some y) (N : Nat) : s_ref32_with N g s x = some ⟨g.Types, g.L.set s.toNat x⟩ := by
  have := hg.srcs
  unfold s_ref32_with
  rw [if_pos (by omega), h]; rfl

theorem e_ref32_Accept (g : gate_Gate) (e : event_Event) (hg : gok g) (he : eok e) : EvN (fun N => s_ref32_Accept N g e) (acc g e) := by
  refine evN ?_
  unfold s_ref32_Accept acc
  refine Evl.call (e_ref32_Why g e hg he) ?_
  by_cases h1 : (why g e != 0) = true
  · simp only [h1, if_true]; exact Evl.ret _
  · have h1 := eq_false_of_ne_true h1
    obtain ⟨q1, q2, q3, q4⟩ := opn_ok (why_ok h1)
    simp only [h1, q2, Option.bind_some, e_ref32_with g hg e.Source _ _ q2]
    exact Evl.ret _

def adv (g : gate_Gate) (s time : Int) : gate_Gate × Int :=
  if (opn g s).2 != 0 then (g, (opn g s).2) else if decide (time < (opn g s).1.Front) then (g, 8) else if decide (time > 1099511627776) then (g, 8) else (⟨g.Types, g.L.set s.toNat ⟨time, (opn g s).1.Last, false⟩⟩, 0)
theorem e_gate_Advance (g : gate_Gate) (s time : Int) (hg : gok g) : EvN (fun N => s_gate_Gate_Advance N g s time) (adv g s time) := by
  refine EvN.some fun N => ?_
  unfold s_gate_Gate_Advance adv
  simp only [e_gate_open, Option.bind_some]
  by_cases h2 : ((opn g s).2 != 0) = true
  · simp only [h2, if_true]
  · have h2 := eq_false_of_ne_true h2
    obtain ⟨q1, q2, q3, q4⟩ := opn_ok h2
    simp only [h2, s_gate_Gate_turn_v637, s_gate_Gate_Advance_L1_v469, clone_src g.L hg.srcs, Option.bind_some, q2, q3]
    repeat' split
    all_goals first | rfl | (exfalso; simp_all; done)
theorem e_ref32_Advance (g : gate_Gate) (s time : Int) (hg : gok g) : EvN (fun N => s_ref32_Advance N g s time) (adv g s time) := by
  refine EvN.some fun N => ?_
  unfold s_ref32_Advance adv
  simp only [e_ref32_open, Option.bind_some]
  by_cases h2 : ((opn g s).2 != 0) = true
  · simp only [h2, if_true]
  · have h2 := eq_false_of_ne_true h2
    obtain ⟨q1, q2, q3, q4⟩ := opn_ok h2
    simp only [h2, Option.bind_some, q2, e_ref32_with g hg s _ _ q2]
    repeat' split
    all_goals first | rfl | (exfalso; simp_all; done)

def clo (g : gate_Gate) (s : Int) : gate_Gate × Int :=
  if (opn g s).2 != 0 then (g, (opn g s).2) else (⟨g.Types, g.L.set s.toNat ⟨(opn g s).1.Front, (opn g s).1.Last, true⟩⟩, 0)
theorem e_gate_Close (g : gate_Gate) (s : Int) (hg : gok g) : EvN (fun N => s_gate_Gate_Close N g s) (clo g s) := by
  refine EvN.some fun N => ?_
  unfold s_gate_Gate_Close clo
  simp only [e_gate_open, Option.bind_some]
  by_cases h2 : ((opn g s).2 != 0) = true
  · simp only [h2, if_true]
  · have h2 := eq_false_of_ne_true h2
    obtain ⟨q1, q2, q3, q4⟩ := opn_ok h2
    simp only [h2, s_gate_Gate_turn_v071, s_gate_Gate_Close_L1_v462, clone_src g.L hg.srcs, Option.bind_some, q2, q3]
    rfl
theorem e_ref32_Close (g : gate_Gate) (s : Int) (hg : gok g) : EvN (fun N => s_ref32_Close N g s) (clo g s) := by
  refine EvN.some fun N => ?_
  unfold s_ref32_Close clo
  simp only [e_ref32_open, Option.bind_some]
  by_cases h2 : ((opn g s).2 != 0) = true
  · simp only [h2, if_true]
  · have h2 := eq_false_of_ne_true h2
    obtain ⟨q1, q2, q3, q4⟩ := opn_ok h2
    simp only [h2, Option.bind_some, q2, e_ref32_with g hg s _ _ q2]
    rfl

def lea (m : Int) : List gate_Source → Int
  | [] => m
  | x :: r => if x.Closed then lea m r else lea (min m x.Front) r
theorem e_gate_Least (g : gate_Gate) (hl : g.L.length ≤ 1000) : EvN (fun N => s_gate_Gate_Least N g) (lea 1099511627777 g.L) := by
  refine evN ?_
  have := ev1_loop2 (F := fun N => s_gate_Gate_Least_1 N g) (fun _ i => ∃ j : Nat, i = (j : Int) ∧ j ≤ g.L.length) (fun _ i => g.L.length - i.toNat) (fun m i => lea m (g.L.drop i.toNat)) (fun m i ⟨j, hi, hj⟩ ih => ?_) 1099511627777 0 ⟨0, rfl, by omega⟩
  · exact this
  subst hi
  rcases drop_cases g.L j hj with ⟨e, hd⟩ | ⟨e, rest, hlt, hd, hd', he⟩
  · simp only [Int.toNat_natCast, hd, lea]
    subst e
    simp only [s_gate_Gate_Least_1, Int.lt_irrefl, decide_false]; exact Evl.ret _
  · have hdec : decide ((j : Int) < (g.L.length : Int)) = true := decide_eq_true (by omega)
    have hix : ix g.L (j : Int) = some e := by rw [ix_cast, he]
    have hin : i64in ((j : Int) + 1) := by unfold i64in; omega
    have hd2 : g.L.drop ((j : Int) + 1).toNat = rest := by rw [show ((j : Int) + 1).toNat = j + 1 by omega]; exact hd'
    simp only [s_gate_Gate_Least_1, hdec, hix, if_true, Option.bind_some, hin, Int.toNat_natCast, hd, lea]
    by_cases hc : e.Closed = true
    · simp only [hc, if_true]
      have h0 := ih m ((j : Int) + 1) ⟨j + 1, by simp, by omega⟩ (by omega)
      rw [hd2] at h0; exact h0
    · simp only [eq_false_of_ne_true hc, if_false, Bool.false_eq_true]
      have h0 := ih (min m e.Front) ((j : Int) + 1) ⟨j + 1, by simp, by omega⟩ (by omega)
      rw [hd2] at h0; exact h0
theorem e_ref32_Least (g : gate_Gate) (hl : g.L.length ≤ 1000) : EvN (fun N => s_ref32_Least N g) (lea 1099511627777 g.L) := e_gate_Least g hl

end Go.Proofs.YtfblfapkpieckaaDoor.W
namespace Go.Proofs.YtfblfapkpieckaaDoor.W
open Go
set_option linter.unusedSimpArgs false
set_option linter.unusedVariables false

def all2 {α β : Type} (p : α → β → Bool) : List α → List β → Bool
  | x :: r, y :: q => p x y && all2 p r q
  | _, _ => true
def sameFl (a b : schema_Field) : Bool := (a.Name == b.Name) && (a.Kind == b.Kind)
def sameF (a b : List schema_Field) : Bool := if ((a.length : Int) != (b.length : Int)) then false else all2 sameFl a b
def sameT (a b : schema_Type) : Bool := if (a.Name == b.Name) then sameF a.Fields b.Fields else false
def sameTs (a b : List schema_Type) : Bool := if ((a.length : Int) != (b.length : Int)) then false else all2 sameT a b
def sameS (a b : gate_Source) : Bool := (a.Front == b.Front) && ((a.Last == b.Last) && (a.Closed == b.Closed))
def sameG (a b : gate_Gate) : Bool := if ((a.L.length : Int) != (b.L.length : Int)) then false else if sameTs a.Types b.Types then all2 sameS a.L b.L else false

theorem all2_refl {α : Type} (p : α → α → Bool) (h : ∀ x, p x x = true) : ∀ l, all2 p l l = true
  | [] => rfl
  | x :: r => by simp [all2, h x, all2_refl p h r]
theorem sameF_refl (a : List schema_Field) : sameF a a = true := by simp [sameF]; exact all2_refl _ (fun x => by simp [sameFl]) a
theorem sameT_refl (a : schema_Type) : sameT a a = true := by simp [sameT, sameF_refl]
theorem sameTs_refl (a : List schema_Type) : sameTs a a = true := by simp [sameTs]; exact all2_refl _ sameT_refl a
theorem sameG_refl (a : gate_Gate) : sameG a a = true := by simp [sameG, sameTs_refl]; exact all2_refl _ (fun x => by simp [sameS]) a.L

theorem e_Equal_Field (a b : List schema_Field) (hb : a.length ≤ 1000) : EvN (fun N => s_slices_Equal_schema_Field N a b) (sameF a b) := by
  refine evN ?_
  unfold s_slices_Equal_schema_Field sameF
  by_cases h2 : ((a.length : Int) != (b.length : Int)) = true
  · simp only [h2, if_true]; exact Evl.ret _
  · have h2 := eq_false_of_ne_true h2
    have hl : a.length = b.length := by have := bne_eq_false_iff_eq.1 h2; omega
    simp only [h2]
    have := range1 (F := fun N => s_slices_Equal_schema_Field_1 N a b) a (by omega) (fun i rest => all2 sameFl rest (b.drop i)) ?_ ?_ 0 (by omega)
    · exact this
    · simp only [s_slices_Equal_schema_Field_1, Int.lt_irrefl, decide_false, all2]; exact Evl.ret _
    · intro i e rest hd hlt hdec hix hin ih
      obtain ⟨f, rest2, q1, q2, q3⟩ := drop_len hl hd
      rw [q2] at ih
      simp only [s_slices_Equal_schema_Field_1, hdec, hix, if_true, Option.bind_some, hin, q1, q3, all2, sameFl]
      by_cases h4 : ((e.Name == f.Name) && (e.Kind == f.Kind)) = true
      · simp only [h4, if_true, Bool.true_and]; exact ih
      · simp only [eq_false_of_ne_true h4, Bool.false_and]; exact Evl.ret _

theorem e_Same_L1 (a b : schema_Type) (hb : a.Fields.length ≤ 1000) : EvN (fun N => s_schema_Same_L1 N a b) (sameT a b) := by
  refine evN ?_
  unfold s_schema_Same_L1 sameT
  by_cases h : (a.Name == b.Name) = true
  · simp only [h, if_true]; exact Evl.call (e_Equal_Field _ _ hb) (Evl.ret _)
  · simp only [eq_false_of_ne_true h]; exact Evl.ret _

theorem e_schema_Same (a b : List schema_Type) (hb : a.length ≤ 1000) (hf : ∀ t ∈ a, t.Fields.length ≤ 1000) : EvN (fun N => s_schema_Same N a b) (sameTs a b) := by
  refine evN ?_
  unfold s_schema_Same
  refine Evl.call (a := sameTs a b) (evN ?_) (Evl.ret _)
  unfold s_slices_EqualFunc_schema_Type_v029 sameTs
  by_cases h2 : ((a.length : Int) != (b.length : Int)) = true
  · simp only [h2, if_true]; exact Evl.ret _
  · have h2 := eq_false_of_ne_true h2
    have hl : a.length = b.length := by have := bne_eq_false_iff_eq.1 h2; omega
    simp only [h2]
    have := range1 (F := fun N => s_slices_EqualFunc_schema_Type_v029_1 N a b) a (by omega) (fun i rest => all2 sameT rest (b.drop i)) ?_ ?_ 0 (by omega)
    · exact this
    · simp only [s_slices_EqualFunc_schema_Type_v029_1, Int.lt_irrefl, decide_false, all2]; exact Evl.ret _
    · intro i e rest hd hlt hdec hix hin ih
      obtain ⟨f, rest2, q1, q2, q3⟩ := drop_len hl hd
      have hm : e ∈ a := by rw [(take_drop hd).1]; simp
      rw [q2] at ih
      simp only [s_slices_EqualFunc_schema_Type_v029_1, hdec, hix, if_true, Option.bind_some, hin, q1, q3, all2]
      refine Evl.call (e_Same_L1 e f (hf e hm)) ?_
      by_cases h4 : sameT e f = true
      · simp only [h4, if_true, Bool.true_and]; exact ih
      · simp only [eq_false_of_ne_true h4, Bool.false_and]; exact Evl.ret _

theorem e_ref06_Same (a b : List schema_Type) (hb : a.length ≤ 1000) (hf : ∀ t ∈ a, t.Fields.length ≤ 1000) : EvN (fun N => s_ref06_Same N a b) (sameTs a b) := by
  refine evN ?_
  unfold s_ref06_Same sameTs
  by_cases h2 : ((a.length : Int) != (b.length : Int)) = true
  · simp only [h2, if_true]; exact Evl.ret _
  · have h2 := eq_false_of_ne_true h2
    have hl : a.length = b.length := by have := bne_eq_false_iff_eq.1 h2; omega
    simp only [h2]
    have := range1 (F := fun N => s_ref06_Same_1 N a b) a (by omega) (fun i rest => all2 sameT rest (b.drop i)) ?_ ?_ 0 (by omega)
    · exact this
    · simp only [s_ref06_Same_1, Int.lt_irrefl, decide_false, all2]; exact Evl.ret _
    · intro i e rest hd hlt hdec hix hin ih
      obtain ⟨f, rest2, q1, q2, q3⟩ := drop_len hl hd
      have hm : e ∈ a := by rw [(take_drop hd).1]; simp
      have h5 := hf e hm
      rw [q2] at ih
      simp only [s_ref06_Same_1, hdec, hix, if_true, Option.bind_some, hin, q1, q3, all2, sameT]
      by_cases h3 : (e.Name == f.Name) = true
      · simp only [h3, if_true, sameF]
        by_cases h6 : ((e.Fields.length : Int) != (f.Fields.length : Int)) = true
        · simp only [h6, if_true, Bool.false_and]; exact Evl.ret _
        · have h6 := eq_false_of_ne_true h6
          have hl2 : e.Fields.length = f.Fields.length := by have := bne_eq_false_iff_eq.1 h6; omega
          simp only [h6]
          have := range2 (F := fun N n => s_ref06_Same_2 N i e f (loop1 (s_ref06_Same_1 N a b) n)) e.Fields (by omega) (fun k r => all2 sameFl r (f.Fields.drop k) && all2 sameT rest rest2) ?_ ?_ 0 (by omega)
          · exact this
          · simp only [s_ref06_Same_2, Int.lt_irrefl, decide_false, hin, if_true, all2, Bool.true_and]; exact ih
          · intro k e2 r2 hd2 hlt2 hdec2 hix2 hin2 ih2
            obtain ⟨f2, rest3, p1, p2, p3⟩ := drop_len hl2 hd2
            rw [p2] at ih2
            simp only [s_ref06_Same_2, hdec2, hix2, if_true, Option.bind_some, hin2, p1, p3, all2, sameFl]
            by_cases h4 : ((e2.Name == f2.Name) && (e2.Kind == f2.Kind)) = true
            · simp only [h4, if_true, Bool.true_and]; exact ih2
            · simp only [eq_false_of_ne_true h4, Bool.false_and]; exact Evl.ret _
      · simp only [eq_false_of_ne_true h3, Bool.false_and, if_false, Bool.false_eq_true]; exact Evl.ret _

theorem e_sameS (F : Nat → (Int → Option Bool) → Int → Option Bool) (a b : List gate_Source) (hb : a.length ≤ 1000) (hl : a.length = b.length)
    (hF : ∀ N next x, F N next x = (if decide (x < (a.length : Int)) then (ix a x).bind fun e => (ix b x).bind fun e2 => if (e.Front == e2.Front) && ((e.Last == e2.Last) && (e.Closed == e2.Closed)) then (if i64in (x + 1) then next (x + 1) else none) else some false else some true)) :
    Evl (fun N _ _ => loop1 (F N) N 0) (all2 sameS a b) := by
  have := range1 (F := F) a (by omega) (fun i rest => all2 sameS rest (b.drop i)) ?_ ?_ 0 (by omega)
  · exact this
  · simp only [hF, Int.lt_irrefl, decide_false, all2]; exact Evl.ret _
  · intro i e rest hd hlt hdec hix hin ih
    obtain ⟨f, rest2, q1, q2, q3⟩ := drop_len hl hd
    rw [q2] at ih
    simp only [hF, hdec, hix, if_true, Option.bind_some, hin, q1, q3, all2, sameS]
    by_cases h4 : ((e.Front == f.Front) && ((e.Last == f.Last) && (e.Closed == f.Closed))) = true
    · simp only [h4, if_true, Bool.true_and]; exact ih
    · simp only [eq_false_of_ne_true h4, Bool.false_and]; exact Evl.ret _

theorem e_gate_Same (a b : gate_Gate) (hg : gok a) : EvN (fun N => s_gate_Same N a b) (sameG a b) := by
  refine evN ?_
  unfold s_gate_Same sameG
  by_cases h2 : ((a.L.length : Int) != (b.L.length : Int)) = true
  · simp only [h2, if_true]; exact Evl.ret _
  · have h2 := eq_false_of_ne_true h2
    have hl : a.L.length = b.L.length := by have := bne_eq_false_iff_eq.1 h2; omega
    simp only [h2]
    refine Evl.call (e_schema_Same _ _ hg.len hg.fs) ?_
    by_cases h3 : sameTs a.Types b.Types = true
    · simp only [h3, if_true]
      exact e_sameS (fun N => s_gate_Same_1 N a b) a.L b.L hg.srcs hl (fun N next x => rfl)
    · simp only [eq_false_of_ne_true h3]; exact Evl.ret _

theorem e_ref32_Same (a b : gate_Gate) (hg : gok a) : EvN (fun N => s_ref32_Same N a b) (sameG a b) := by
  refine evN ?_
  unfold s_ref32_Same sameG
  refine Evl.call (e_ref06_Same _ _ hg.len hg.fs) ?_
  by_cases h3 : sameTs a.Types b.Types = true
  · simp only [h3, if_true]
    by_cases h2 : ((a.L.length : Int) != (b.L.length : Int)) = true
    · simp only [h2, if_true]; exact Evl.ret _
    · have h2 := eq_false_of_ne_true h2
      have hl : a.L.length = b.L.length := by have := bne_eq_false_iff_eq.1 h2; omega
      simp only [h2]
      exact e_sameS (fun N => s_ref32_Same_1 N a b) a.L b.L hg.srcs hl (fun N next x => rfl)
  · simp only [eq_false_of_ne_true h3, Bool.false_eq_true, if_false, ite_self]; exact Evl.ret _

end Go.Proofs.YtfblfapkpieckaaDoor.W
namespace Go.Proofs.YtfblfapkpieckaaDoor.W
open Go
set_option linter.unusedSimpArgs false
set_option linter.unusedVariables false

theorem gok_set {g : gate_Gate} (h : gok g) (i : Nat) (x : gate_Source) : gok ⟨g.Types, g.L.set i x⟩ := ⟨h.len, h.fs, by simpa using h.srcs⟩
theorem acc_gok {g : gate_Gate} {e : event_Event} (h : gok g) : gok (acc g e).1 := by unfold acc; split; exact h; exact gok_set h _ _
theorem adv_gok {g : gate_Gate} {s t : Int} (h : gok g) : gok (adv g s t).1 := by
  unfold adv
  repeat' split
  all_goals first | exact h | exact gok_set h _ _
theorem clo_gok {g : gate_Gate} {s : Int} (h : gok g) : gok (clo g s).1 := by unfold clo; split; exact h; exact gok_set h _ _

/-- What an operation's input is, whatever it is. -/
structure opok (o : law32_Op) : Prop where
  vs : ∀ v ∈ o.E.Vals, vok v
  ts : ∀ v ∈ o.E.Vals, v.Text.length ≤ 9223372036854775807

theorem law_step (l : List law32_Op) (hlen : l.length ≤ 1000) (hl : ∀ o ∈ l, opok o) (haw : EvN (fun N => s_law32_awake N) true) (g : gate_Gate) (hg : gok g) :
    Evl (fun N _ _ => loop5 (s_law32_GateDoes_1 N l) N 0 g.Types g.L g.Types g.L) true := by
  refine ev1_loop5 (F := fun N => s_law32_GateDoes_1 N l) (fun i a b c d => ∃ j : Nat, i = (j : Int) ∧ j ≤ l.length ∧ gok ⟨a, b⟩ ∧ c = a ∧ d = b) (fun i _ _ _ _ => l.length - i.toNat) (fun _ _ _ _ _ => true)
    (fun i a b c d ⟨j, hi, hj, hok, hc, hd⟩ ih => ?_) 0 g.Types g.L g.Types g.L ⟨0, rfl, by omega, hg, rfl, rfl⟩
  subst hi hc hd
  rcases drop_cases l j hj with ⟨e, hd⟩ | ⟨e, rest, hlt, hd, hd', he⟩
  · subst e
    simp only [s_law32_GateDoes_1, Int.lt_irrefl, decide_false]
    exact Evl.call haw (Evl.ret _)
  · have hdec : decide ((j : Int) < (l.length : Int)) = true := decide_eq_true (by omega)
    have hix : ix l (j : Int) = some e := by rw [ix_cast, he]
    have hin : i64in ((j : Int) + 1) := by unfold i64in; omega
    have hm : e ∈ l := by rw [(take_drop hd).1]; simp
    have hop := hl e hm
    have next : ∀ g' : gate_Gate, gok g' → Evl (fun N n _ => loop5 (s_law32_GateDoes_1 N l) n ((j : Int) + 1) g'.Types g'.L g'.Types g'.L) true := fun g' h' =>
      ih ((j : Int) + 1) g'.Types g'.L g'.Types g'.L ⟨j + 1, by simp, by omega, h', rfl, rfl⟩ (by omega)
    simp only [s_law32_GateDoes_1, hdec, hix, if_true, Option.bind_some]
    refine Evl.call (e_law07_Over e.E hop.ts) ?_
    by_cases hb : ebig e.E = true
    · simp only [hb, if_true]
      have h10 : decide ((1 : Int) > 0) = true := rfl
      simp only [h10, if_true]
      exact Evl.call haw (Evl.ret _)
    · have hb := eq_false_of_ne_true hb
      have h00 : decide ((0 : Int) > 0) = false := rfl
      simp only [hb, Bool.false_eq_true, if_false, h00]
      have hvl : e.E.Vals.length ≤ 1000 := by
        simp only [ebig, Bool.or_eq_false_iff, decide_eq_false_iff_not] at hb
        omega
      have heok : eok e.E := ⟨hvl, hop.vs⟩
      refine Evl.call (e_law07_Own e.E hvl) ?_
      refine Evl.call (e_gate_Why _ _ hok heok) ?_
      refine Evl.call (e_ref32_Why _ _ hok heok) ?_
      simp only [bne_self_eq_false, Bool.false_eq_true, if_false]
      have tail : ∀ r : gate_Gate × Int, gok r.1 → Evl (fun N n _ =>
          (s_law32_Back N r.1).bind fun back2 => (s_ref32_Same N back2 r.1).bind fun same2 =>
          if same2 = true then (s_gate_Gate_Least N r.1).bind fun leas => (s_ref32_Least N r.1).bind fun leas2 =>
            if (leas != leas2) = true then some false
            else (s_gate_Same N ⟨c, d⟩ r.1).bind fun same3 => (s_law32_Back N ⟨c, d⟩).bind fun back3 => (s_ref32_Same N back3 r.1).bind fun same4 =>
              if (same3 == same4) = true then (if i64in ((j : Int) + 1) then loop5 (s_law32_GateDoes_1 N l) n ((j : Int) + 1) r.1.Types r.1.L r.1.Types r.1.L else none) else some false
          else some false) true := by
        intro r hr
        refine Evl.call (e_law32_Back _ hr.len hr.fs hr.srcs) ?_
        refine Evl.call (e_ref32_Same _ _ hr) ?_
        simp only [sameG_refl, if_true]
        refine Evl.call (e_gate_Least _ hr.srcs) ?_
        refine Evl.call (e_ref32_Least _ hr.srcs) ?_
        simp only [bne_self_eq_false, Bool.false_eq_true, if_false]
        refine Evl.call (e_gate_Same _ _ hok) ?_
        refine Evl.call (e_law32_Back _ hok.len hok.fs hok.srcs) ?_
        refine Evl.call (e_ref32_Same _ _ hok) ?_
        simp only [beq_self_eq_true, if_true, hin]
        exact next r.1 hr
      by_cases k0 : (e.Kind == 0) = true
      · simp only [k0, if_true]
        refine Evl.call (e_gate_Accept _ _ hok heok) ?_
        refine Evl.call (e_ref32_Accept _ _ hok heok) ?_
        simp only [bne_self_eq_false, Bool.false_eq_true, if_false]
        exact tail _ (acc_gok hok)
      · have k0 := eq_false_of_ne_true k0
        by_cases k1 : (e.Kind == 1) = true
        · simp only [k0, k1, if_true, Bool.false_eq_true, if_false]
          refine Evl.call (e_gate_Advance _ _ _ hok) ?_
          refine Evl.call (e_ref32_Advance _ _ _ hok) ?_
          simp only [bne_self_eq_false, Bool.false_eq_true, if_false]
          exact tail _ (adv_gok hok)
        · have k1 := eq_false_of_ne_true k1
          simp only [k0, k1, Bool.false_eq_true, if_false]
          refine Evl.call (e_gate_Close _ _ hok) ?_
          refine Evl.call (e_ref32_Close _ _ hok) ?_
          simp only [bne_self_eq_false, Bool.false_eq_true, if_false]
          exact tail _ (clo_gok hok)

theorem gnew_gok (types : List schema_Type) (sources : Int) (hb : types.length ≤ 1000) (hf : ∀ t ∈ types, t.Fields.length ≤ 1000) : gok (gnew types sources).1 := by
  unfold gnew
  repeat' split
  · exact ⟨by simp, by simp, by simp⟩
  · exact ⟨by simp, by simp, by simp⟩
  · exact ⟨by simp, by simp, by simp⟩
  · exact ⟨hb, hf, by simp; omega⟩

theorem law_GateDoes (haw : EvN (fun N => s_law32_awake N) true) (types : List schema_Type) (sources : Int) (l : List law32_Op) (hl : ∀ o ∈ l, opok o) : EvN (fun N => s_law32_GateDoes N types sources l) true := by
  refine evN ?_
  unfold s_law32_GateDoes
  refine Evl.call (e_law06_Over types) ?_
  by_cases h1 : decide (ovr types > 0) = true
  · simp only [h1, if_true]; exact Evl.call haw (Evl.ret _)
  · have h1 := eq_false_of_ne_true h1
    obtain ⟨hb, hf⟩ := ovr_ok h1
    have hb' : types.length ≤ 1000 := by omega
    have hf' : ∀ t ∈ types, t.Fields.length ≤ 1000 := fun t ht => by have := hf t ht; omega
    simp only [h1, Bool.false_eq_true, if_false]
    by_cases h2 : decide ((l.length : Int) > 20) = true
    · simp only [h2, if_true]; exact Evl.call haw (Evl.ret _)
    · have h2 := eq_false_of_ne_true h2
      have hln : l.length ≤ 20 := by have := of_decide_eq_false h2; omega
      simp only [h2, Bool.false_eq_true, if_false]
      refine Evl.call (e_law06_Own types hb' hf') ?_
      refine Evl.call (e_gate_New types sources hb' hf') ?_
      refine Evl.call (e_ref32_New types sources) ?_
      have hg := gnew_gok types sources hb' hf'
      simp only [bne_self_eq_false, Bool.false_eq_true, if_false]
      refine Evl.call (e_law32_Back _ hg.len hg.fs hg.srcs) ?_
      refine Evl.call (e_ref32_Same _ _ hg) ?_
      simp only [sameG_refl, if_true]
      exact law_step l (by omega) hl haw _ hg

end Go.Proofs.YtfblfapkpieckaaDoor.W
namespace Go.Proofs.YtfblfapkpieckaaDoor.W
open Go
set_option linter.unusedSimpArgs false
set_option linter.unusedVariables false
set_option maxRecDepth 100000

theorem awake_at (n : Nat) : s_law32_awake (n + 40) = some true := by kernel_rfl
theorem e_law32_awake : EvN (fun N => s_law32_awake N) true := ⟨40, fun N hN => by
  obtain ⟨n, rfl⟩ : ∃ n, N = n + 40 := ⟨N - 40, by omega⟩
  exact awake_at n⟩
theorem law_GateDoes' (types : List schema_Type) (sources : Int) (l : List law32_Op) (hl : ∀ o ∈ l, opok o) : EvN (fun N => s_law32_GateDoes N types sources l) true := law_GateDoes e_law32_awake types sources l hl
#print axioms law_GateDoes'

end Go.Proofs.YtfblfapkpieckaaDoor.W
namespace Go.Proofs.YtfblfapkpieckaaDoor.W
open Go Go.Proofs.Tryd
set_option linter.unusedSimpArgs false
set_option linter.unusedVariables false

theorem d_field {H : Type} (d : DataW H) (cs : List AV) (h : DAv prog 72 d cs) : ∃ x : schema_Field, mkE prog 72 cs = x.av ∧ True := by
  obtain ⟨_, h⟩ := dv_struct (ts := [9, 5]) (by kernel_rfl) h
  obtain ⟨_, a1, _, _, rfl, h1, h⟩ := dvs_cons h
  obtain ⟨_, a2, _, _, rfl, h2, h⟩ := dvs_cons h
  obtain rfl := dvs_nil h
  obtain ⟨x1, rfl, _⟩ := dv_string (by kernel_rfl) h1
  obtain ⟨x2, rfl, _, _⟩ := dv_int (k := .u8) (by kernel_rfl) h2
  exact ⟨⟨x1, x2⟩, mkE_agg (by kernel_rfl), trivial⟩

theorem d_type {H : Type} (d : DataW H) (cs : List AV) (h : DAv prog 70 d cs) : ∃ x : schema_Type, mkE prog 70 cs = x.av ∧ True := by
  obtain ⟨_, h⟩ := dv_struct (ts := [9, 68]) (by kernel_rfl) h
  obtain ⟨_, a1, _, _, rfl, h1, h⟩ := dvs_cons h
  obtain ⟨_, a2, _, _, rfl, h2, h⟩ := dvs_cons h
  obtain rfl := dvs_nil h
  obtain ⟨x1, rfl, _⟩ := dv_string (by kernel_rfl) h1
  obtain ⟨x2, rfl, _, _⟩ := dv_slice (e := 72) (k := 2) schema_Field.av (fun _ => True) (by kernel_rfl) (by kernel_rfl) d_field h2
  exact ⟨⟨x1, x2⟩, mkE_agg (by kernel_rfl), trivial⟩

def valok (v : value_Value) : Prop := vok v ∧ v.Text.length ≤ 9223372036854775807
theorem d_value {H : Type} (d : DataW H) (cs : List AV) (h : DAv prog 89 d cs) : ∃ x : value_Value, mkE prog 89 cs = x.av ∧ valok x := by
  obtain ⟨_, h⟩ := dv_struct (ts := [5, 3, 87, 9]) (by kernel_rfl) h
  obtain ⟨_, a1, _, _, rfl, h1, h⟩ := dvs_cons h
  obtain ⟨_, a2, _, _, rfl, h2, h⟩ := dvs_cons h
  obtain ⟨_, a3, _, _, rfl, h3, h⟩ := dvs_cons h
  obtain ⟨_, a4, _, _, rfl, h4, h⟩ := dvs_cons h
  obtain rfl := dvs_nil h
  obtain ⟨x1, rfl, _, _⟩ := dv_int (k := .u8) (by kernel_rfl) h1
  obtain ⟨x2, rfl, _, _⟩ := dv_int (k := .i64) (by kernel_rfl) h2
  obtain ⟨x3, rfl, b1, b2⟩ := dv_int (k := .u64) (by kernel_rfl) h3
  obtain ⟨x4, rfl, b3⟩ := dv_string (by kernel_rfl) h4
  refine ⟨⟨x1, x2, x3, x4⟩, mkE_agg (by kernel_rfl), ⟨?_, ?_⟩, b3⟩
  · have : IntKind.u64.min = 0 := by decide
    rw [this] at b1; exact b1
  · have : IntKind.u64.max = 18446744073709551615 := by decide
    rw [this] at b2
    show x3 < 18446744073709551616
    omega

theorem d_event {H : Type} (d : DataW H) (cs : List AV) (h : DAv prog 44 d cs) : ∃ x : event_Event, AV.agg cs = x.av ∧ ∀ v ∈ x.Vals, valok v := by
  obtain ⟨_, h⟩ := dv_struct (ts := [3, 3, 3, 9, 42]) (by kernel_rfl) h
  obtain ⟨_, a1, _, _, rfl, h1, h⟩ := dvs_cons h
  obtain ⟨_, a2, _, _, rfl, h2, h⟩ := dvs_cons h
  obtain ⟨_, a3, _, _, rfl, h3, h⟩ := dvs_cons h
  obtain ⟨_, a4, _, _, rfl, h4, h⟩ := dvs_cons h
  obtain ⟨_, a5, _, _, rfl, h5, h⟩ := dvs_cons h
  obtain rfl := dvs_nil h
  obtain ⟨x1, rfl, _, _⟩ := dv_int (k := .i64) (by kernel_rfl) h1
  obtain ⟨x2, rfl, _, _⟩ := dv_int (k := .i64) (by kernel_rfl) h2
  obtain ⟨x3, rfl, _, _⟩ := dv_int (k := .i64) (by kernel_rfl) h3
  obtain ⟨x4, rfl, _⟩ := dv_string (by kernel_rfl) h4
  obtain ⟨x5, rfl, hv, _⟩ := dv_slice (e := 89) (k := 4) value_Value.av valok (by kernel_rfl) (by kernel_rfl) d_value h5
  exact ⟨⟨x1, x2, x3, x4, x5⟩, rfl, hv⟩

theorem d_op {H : Type} (d : DataW H) (cs : List AV) (h : DAv prog 46 d cs) : ∃ x : law32_Op, mkE prog 46 cs = x.av ∧ opok x := by
  obtain ⟨_, h⟩ := dv_struct (ts := [5, 3, 3, 44]) (by kernel_rfl) h
  obtain ⟨_, a1, _, _, rfl, h1, h⟩ := dvs_cons h
  obtain ⟨_, a2, _, _, rfl, h2, h⟩ := dvs_cons h
  obtain ⟨_, a3, _, _, rfl, h3, h⟩ := dvs_cons h
  obtain ⟨_, a4, _, _, rfl, h4, h⟩ := dvs_cons h
  obtain rfl := dvs_nil h
  obtain ⟨x1, rfl, _, _⟩ := dv_int (k := .u8) (by kernel_rfl) h1
  obtain ⟨x2, rfl, _, _⟩ := dv_int (k := .i64) (by kernel_rfl) h2
  obtain ⟨x3, rfl, _, _⟩ := dv_int (k := .i64) (by kernel_rfl) h3
  obtain ⟨x4, hx, hv⟩ := d_event _ _ h4
  obtain rfl := AV.agg.inj hx
  exact ⟨⟨x1, x2, x3, x4⟩, mkE_agg (by kernel_rfl), ⟨fun v h => (hv v h).1, fun v h => (hv v h).2⟩⟩

theorem d_GateDoes {H : Type} (ds : List (DataW H)) (xs : List AV) (h : DAvV prog [22, 3, 23] ds xs) :
    ∃ types sources l, xs = [.sl 2 (List.map schema_Type.av types), .v (.int .i64 sources), .sl 8 (List.map law32_Op.av l)] ∧ ∀ o ∈ l, opok o := by
  obtain ⟨_, a1, _, _, rfl, rfl, h1, h⟩ := dvv_cons h
  obtain ⟨_, a2, _, _, rfl, rfl, h2, h⟩ := dvv_cons h
  obtain ⟨_, a3, _, _, rfl, rfl, h3, h⟩ := dvv_cons h
  obtain ⟨rfl, rfl⟩ := dvv_nil h
  obtain ⟨x1, rfl, _, _⟩ := dv_slice (e := 70) (k := 2) schema_Type.av (fun _ => True) (by kernel_rfl) (by kernel_rfl) d_type h1
  obtain ⟨x2, rfl, _, _⟩ := dv_int (k := .i64) (by kernel_rfl) h2
  obtain ⟨x3, rfl, ho, _⟩ := dv_slice (e := 46) (k := 8) law32_Op.av opok (by kernel_rfl) (by kernel_rfl) d_op h3
  exact ⟨x1, x2, x3, by rw [mkE_one (by kernel_rfl), mkE_one (by kernel_rfl), mkE_one (by kernel_rfl)], ho⟩

end Go.Proofs.YtfblfapkpieckaaDoor.W
