/- Plain laws of the printed functions: numbers, boxes, lists of entries. No condition. -/
import Derived.Test.YtdfdahoceohcjaaAllx15
import Derived.Test.YtdfdahoceohcjaaAllx20
import Derived.Test.YtdfdahoceohcjaaAllx13
import Derived.Test.YtdfdahoceohcjaaAllx19
namespace Go.Proofs.Ytdfdahoceohcjaa.Pure
open Go.RowKit Go.Proofs.Ytdfdahoceohcjaa.All Go.Proofs.YtdfdahoceohcjaaW.PrintWords Go.Proofs.YtdfdahoceohcjaaW.PrintLast
set_option linter.unusedVariables false

/-- With enough rounds g answers r. -/
def Evn {α : Type} (g : Nat → Option α) (r : α) : Prop := ∃ K, ∀ k, K ≤ k → g k = some r
theorem Evn.const {α : Type} {g : Nat → Option α} {r : α} (h : ∀ k, g k = some r) : Evn g r := ⟨0, fun k _ => h k⟩
theorem Evn.ret {α : Type} (r : α) : Evn (fun _ => some r) r := ⟨0, fun _ _ => rfl⟩
theorem Evn.bind {α β : Type} {g : Nat → Option α} {f : Nat → α → Option β} {a : α} {r : β} (h : Evn g a) (k : Evn (fun k => f k a) r) : Evn (fun k => (g k).bind (f k)) r := by
  obtain ⟨K, hK⟩ := h
  obtain ⟨L, hL⟩ := k
  refine ⟨K + L, fun k hk => ?_⟩
  show (g k).bind (f k) = some r
  rw [hK k (by omega)]
  exact hL k (by omega)
theorem Evn.step {α : Type} {g g' : Nat → Option α} {r : α} (h : ∀ k, g (k + 1) = g' k) (k : Evn g' r) : Evn g r := by
  obtain ⟨L, hL⟩ := k
  refine ⟨L + 1, fun k hk => ?_⟩
  obtain ⟨m, rfl⟩ : ∃ m, k = m + 1 := ⟨k - 1, by omega⟩
  rw [h m]
  exact hL m (by omega)
theorem Evn.pos {α : Type} {c : Prop} [Decidable c] {g g' : Nat → Option α} {r : α} (hc : c) (h : Evn g r) : Evn (fun k => if c then g k else g' k) r := by
  obtain ⟨L, hL⟩ := h
  exact ⟨L, fun k hk => by show (if c then g k else g' k) = some r; rw [if_pos hc]; exact hL k hk⟩
theorem Evn.neg {α : Type} {c : Prop} [Decidable c] {g g' : Nat → Option α} {r : α} (hc : ¬ c) (h : Evn g' r) : Evn (fun k => if c then g k else g' k) r := by
  obtain ⟨L, hL⟩ := h
  exact ⟨L, fun k hk => by show (if c then g k else g' k) = some r; rw [if_neg hc]; exact hL k hk⟩
theorem Evn.congr {α : Type} {g g' : Nat → Option α} {r : α} (h : ∀ k, g k = g' k) (k : Evn g' r) : Evn g r := by
  obtain ⟨L, hL⟩ := k
  exact ⟨L, fun k hk => by rw [h k]; exact hL k hk⟩
theorem Evn.some_k {α : Type} {g : Nat → Option α} {r : α} (h : Evn g r) : ∃ k, g k = some r := ⟨_, h.choose_spec _ (Nat.le_refl _)⟩
theorem Evn.same {α : Type} {g g' : Nat → Option α} {r : α} (h : Evn g r) (he : ∀ k, g k = g' k) : Evn g' r := Evn.congr (fun k => (he k).symm) h

abbrev LBx := S25
abbrev Bx := S27
abbrev LEn := S76
abbrev En := S73
abbrev LIt := S84
abbrev It := S81

def bok (a b c d : Int) : Bool := decide (0 ≤ a ∧ a ≤ c ∧ c ≤ 255 ∧ 0 ≤ b ∧ b ≤ d ∧ d ≤ 255)
def area (a b c d : Int) : Int := if bok a b c d = true then wrap64 ((wrap64 ((wrap64 (c - a)) + 1)) * (wrap64 ((wrap64 (d - b)) + 1))) else 0

theorem spec_l1In_f (a b c : Int) : spec_l1In.f a b c = some (decide (b ≤ a ∧ a ≤ c)) := by
  unfold spec_l1In.f
  split <;> simp_all
  omega
theorem impl_in_f (a b c : Int) : impl_in.f a b c = some (decide (b ≤ a ∧ a ≤ c)) := by
  unfold impl_in.f
  split <;> simp_all
  omega
theorem spec_BoxOk_f (a b c d : Int) : spec_BoxOk.f a b c d = some (bok a b c d) := by
  unfold spec_BoxOk.f bok
  simp only [spec_l1In_f, Option.bind_some]
  by_cases h0 : 0 ≤ a ∧ a ≤ 255
  · by_cases h1 : 0 ≤ b ∧ b ≤ 255
    · by_cases h2 : a ≤ c ∧ c ≤ 255
      · simp only [h0, h1, h2, and_self, decide_true, if_true]
        congr 1
        simp
      · simp only [h0, h1, h2, and_self, decide_true, decide_false, if_true]
        simp
        omega
    · simp only [h0, h1, and_self, decide_true, decide_false, if_true]
      simp
      omega
  · simp only [h0, decide_false]
    simp
    omega
theorem impl_BoxOk_f (a b c d : Int) : impl_BoxOk.f a b c d = some (bok a b c d) := by
  unfold impl_BoxOk.f bok
  simp only [impl_in_f, Option.bind_some]
  by_cases h0 : 0 ≤ a ∧ a ≤ c
  · by_cases h1 : 0 ≤ c ∧ c ≤ 255
    · by_cases h2 : 0 ≤ b ∧ b ≤ d
      · simp only [h0, h1, h2, and_self, decide_true, if_true]
        congr 1
        simp
        omega
      · simp only [h0, h1, h2, and_self, decide_true, decide_false, if_true]
        simp
        omega
    · simp only [h0, h1, and_self, decide_true, decide_false, if_true]
      simp
      omega
  · simp only [h0, decide_false]
    simp
    omega
theorem spec_Area_f (a b c d : Int) : spec_Area.f a b c d = some (area a b c d) := by
  unfold spec_Area.f area
  rw [spec_BoxOk_f]
  simp only [Option.bind_some]
  split <;> rfl
theorem impl_Area_f (a b c d : Int) : impl_Area.f a b c d = some (area a b c d) := by
  unfold impl_Area.f area
  rw [impl_BoxOk_f]
  simp only [Option.bind_some]
  split <;> rfl
theorem spec_Least_f (a b : Int) : spec_Least.f a b = some (min a b) := by
  unfold spec_Least.f
  split <;> (congr 1; omega)
theorem spec_Most_f (a b : Int) : spec_Most.f a b = some (max a b) := by
  unfold spec_Most.f
  split <;> (congr 1; omega)
theorem mn_eq (a b : Int) : mn a b = min a b := by
  unfold mn
  split <;> omega
theorem mx_eq (a b : Int) : mx a b = max a b := by
  unfold mx
  split <;> omega
theorem spec_Join_f (a b c d e f g h : Int) : spec_Join.f a b c d e f g h = some (min a e, min b f, max c g, max d h) := by
  unfold spec_Join.f
  simp only [spec_Least_f, spec_Most_f, Option.bind_some]
theorem impl_Join_f (a b c d e f g h : Int) : impl_Join.f a b c d e f g h = some (min a e, min b f, max c g, max d h) := by
  unfold impl_Join.f
  rw [mn_eq, mn_eq, mx_eq, mx_eq]

end Go.Proofs.Ytdfdahoceohcjaa.Pure
