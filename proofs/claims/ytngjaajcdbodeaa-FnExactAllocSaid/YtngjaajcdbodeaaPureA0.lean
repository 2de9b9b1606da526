/- Plain laws of the printed functions: rounds, and the types. No condition. -/
import Derived.Test.YtngjaajcdbodeaaAllx0
namespace Go.Proofs.Ytngjaajcdbodeaa.Pure
open Go.RowKit Go.Proofs.Ytngjaajcdbodeaa.All Go.Proofs.YtngjaajcdbodeaaW.PrintWords Go.Proofs.YtngjaajcdbodeaaW.PrintLast
set_option linter.unusedVariables false

/-- With enough rounds g answers r. -/
def Evn {α : Type} (g : Nat → Option α) (r : α) : Prop := ∃ K, ∀ k, K ≤ k → g k = some r
theorem Evn.const {α : Type} {g : Nat → Option α} {r : α} (h : ∀ k, g k = some r) : Evn g r := ⟨0, fun k _ => h k⟩
theorem Evn.ret {α : Type} (r : α) : Evn (fun _ => some r) r := ⟨0, fun _ _ => rfl⟩
theorem Evn.bind {α β : Type} {g : Nat → Option α} {f : Nat → α → Option β} {a : α} {r : β} (h : Evn g a) (k : Evn (fun k => f k a) r) : Evn (fun k => (g k).bind (f k)) r := by
  obtain ⟨K, hK⟩ := h
  obtain ⟨L, hL⟩ := k
  refine ⟨K + L, fun k hk => ?_⟩
  show (g k).bind (f k) = some r
  rw [hK k (by omega)]
  exact hL k (by omega)
theorem Evn.step {α : Type} {g g' : Nat → Option α} {r : α} (h : ∀ k, g (k + 1) = g' k) (k : Evn g' r) : Evn g r := by
  obtain ⟨L, hL⟩ := k
  refine ⟨L + 1, fun k hk => ?_⟩
  obtain ⟨m, rfl⟩ : ∃ m, k = m + 1 := ⟨k - 1, by omega⟩
  rw [h m]
  exact hL m (by omega)
theorem Evn.pos {α : Type} {c : Prop} [Decidable c] {g g' : Nat → Option α} {r : α} (hc : c) (h : Evn g r) : Evn (fun k => if c then g k else g' k) r := by
  obtain ⟨L, hL⟩ := h
  exact ⟨L, fun k hk => by show (if c then g k else g' k) = some r; rw [if_pos hc]; exact hL k hk⟩
theorem Evn.neg {α : Type} {c : Prop} [Decidable c] {g g' : Nat → Option α} {r : α} (hc : ¬ c) (h : Evn g' r) : Evn (fun k => if c then g k else g' k) r := by
  obtain ⟨L, hL⟩ := h
  exact ⟨L, fun k hk => by show (if c then g k else g' k) = some r; rw [if_neg hc]; exact hL k hk⟩
theorem Evn.congr {α : Type} {g g' : Nat → Option α} {r : α} (h : ∀ k, g k = g' k) (k : Evn g' r) : Evn g r := by
  obtain ⟨L, hL⟩ := k
  exact ⟨L, fun k hk => by rw [h k]; exact hL k hk⟩
theorem Evn.some_k {α : Type} {g : Nat → Option α} {r : α} (h : Evn g r) : ∃ k, g k = some r := ⟨_, h.choose_spec _ (Nat.le_refl _)⟩
theorem Evn.same {α : Type} {g g' : Nat → Option α} {r : α} (h : Evn g r) (he : ∀ k, g k = g' k) : Evn g' r := Evn.congr (fun k => (he k).symm) h

abbrev LBx := S24
abbrev Bx := S32
abbrev LEn := S122
abbrev En := S103
abbrev LIt := S26
abbrev It := S34


end Go.Proofs.Ytngjaajcdbodeaa.Pure
