/- The program's Levels returns what the reference's returns, for every whole number. -/
import Derived.Test.YtdfdahoceohcjaaPFnExactLevelsx1
namespace Go.Proofs.Ytdfdahoceohcjaa.Pure
open Go.RowKit Go.Proofs.Ytdfdahoceohcjaa.PFnExactLevels Go.Proofs.YtdfdahoceohcjaaW.PrintWords Go.Proofs.YtdfdahoceohcjaaW.PrintLast

theorem FnExactLevels : laws_FnExactLevels.Pure := by
  intro a0 _
  refine ⟨5, ?_⟩
  by_cases h : 0 ≤ a0 ∧ a0 ≤ 40
  · obtain ⟨h0, h1⟩ := h
    obtain ⟨n, rfl⟩ := Int.eq_ofNat_of_zero_le h0
    have hn : n ≤ 40 := by omega
    clear h0 h1
    have hall : ∀ m : Nat, m < 41 → laws_FnExactLevels.f 5 (m : Int) = some true := by decide +kernel
    exact hall n (by omega)
  · have e1 : spec_l1In.f a0 0 40 = some false := by
      unfold spec_l1In.f
      split
      · congr 1; simp; omega
      · rfl
    have e2 : impl_in.f a0 0 40 = some false := by
      unfold impl_in.f
      split
      · congr 1; simp; omega
      · rfl
    simp only [laws_FnExactLevels.f, spec_Levels.f, impl_Levels.f, e1, e2, Option.bind_some]
    rfl

end Go.Proofs.Ytdfdahoceohcjaa.Pure
