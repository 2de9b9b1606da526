/- Plain law of the printed choice, the program's and the reference's. No condition. -/
import Derived.Test.YtdfdahoceohcjaaPureGrow
import Derived.Test.YtdfdahoceohcjaaAllx43
import Derived.Test.YtdfdahoceohcjaaAllx44
namespace Go.Proofs.Ytdfdahoceohcjaa.Pure
open Go.RowKit Go.Proofs.Ytdfdahoceohcjaa.All Go.Proofs.YtdfdahoceohcjaaW.PrintWords Go.Proofs.YtdfdahoceohcjaaW.PrintLast
set_option linter.unusedVariables false

/-! ### Choose -/
def chStep (l : List En) (r : Bx) (b i : Nat) : Nat :=
  if growB (bxAt l i) r < growB (bxAt l b) r then i else if growB (bxAt l i) r = growB (bxAt l b) r then (if areaB (bxAt l i) < areaB (bxAt l b) then i else b) else b
def chN (l : List En) (r : Bx) : Nat → Nat
  | 0 => 0
  | i + 1 => chStep l r (chN l r i) (i + 1)
theorem chStep_le (l : List En) (r : Bx) (b i : Nat) (h : b ≤ i) : chStep l r b i ≤ i := by
  unfold chStep
  split
  · omega
  · split
    · split <;> omega
    · omega
theorem chN_le (l : List En) (r : Bx) : ∀ i, chN l r i ≤ i
  | 0 => Nat.le_refl _
  | i + 1 => chStep_le l r _ _ (Nat.le_succ_of_le (chN_le l r i))
theorem chN_least (l : List En) (r : Bx) : ∀ i m, m ≤ i → growB (bxAt l (chN l r i)) r ≤ growB (bxAt l m) r
  | 0, m, h => by
    have : m = 0 := by omega
    subst this
    exact Int.le_refl _
  | i + 1, m, h => by
    have ih := chN_least l r i
    have step : growB (bxAt l (chN l r (i + 1))) r ≤ growB (bxAt l (chN l r i)) r ∧ growB (bxAt l (chN l r (i + 1))) r ≤ growB (bxAt l (i + 1)) r := by
      show growB (bxAt l (chStep l r (chN l r i) (i + 1))) r ≤ _ ∧ growB (bxAt l (chStep l r (chN l r i) (i + 1))) r ≤ _
      unfold chStep
      split
      · exact ⟨by omega, Int.le_refl _⟩
      · split
        · split
          · exact ⟨by omega, Int.le_refl _⟩
          · exact ⟨Int.le_refl _, by omega⟩
        · exact ⟨Int.le_refl _, by omega⟩
    rcases Nat.eq_or_lt_of_le h with rfl | h
    · exact step.2
    · exact Int.le_trans step.1 (ih m (by omega))

theorem choose_none (r : Bx) : Evn (fun q => spec_Choose.f q [] r.f0 r.f1 r.f2 r.f3) (-1) ∧ Evn (fun q => impl_Choose.f q [] r.f0 r.f1 r.f2 r.f3) (-1) := by
  refine ⟨Evn.step (fun q => ?_) (Evn.ret _), Evn.step (fun q => ?_) (Evn.ret _)⟩
  · unfold spec_Choose.f
    rw [spec_Choose.l0, if_neg (by simp)]
  · unfold impl_Choose.f
    rw [impl_Choose.l0, if_neg (by simp)]

theorem choose_some (l : List En) (r : Bx) (hl : l.length ≤ big) (n : Nat) (hn : l.length = n + 1) :
    Evn (fun q => spec_Choose.f q l r.f0 r.f1 r.f2 r.f3) (chN l r n : Int) ∧ Evn (fun q => impl_Choose.f q l r.f0 r.f1 r.f2 r.f3) (chN l r n : Int) := by
  have hG : ∀ x : Nat, spec_Growth.f ((rd_T73 l (x : Int)).f1.f0) ((rd_T73 l (x : Int)).f1.f1) ((rd_T73 l (x : Int)).f1.f2) ((rd_T73 l (x : Int)).f1.f3) r.f0 r.f1 r.f2 r.f3 = some (growB (bxAt l x) r) := fun x => spec_Growth_f (bxAt l x) r
  have hG' : ∀ x : Nat, impl_Growth.f ((rd_T73 l (x : Int)).f1.f0) ((rd_T73 l (x : Int)).f1.f1) ((rd_T73 l (x : Int)).f1.f2) ((rd_T73 l (x : Int)).f1.f3) r.f0 r.f1 r.f2 r.f3 = some (growB (bxAt l x) r) := fun x => impl_Growth_f (bxAt l x) r
  have hA : ∀ x : Nat, spec_Area.f ((rd_T73 l (x : Int)).f1.f0) ((rd_T73 l (x : Int)).f1.f1) ((rd_T73 l (x : Int)).f1.f2) ((rd_T73 l (x : Int)).f1.f3) = some (areaB (bxAt l x)) := fun x => spec_Area_f _ _ _ _
  have hA' : ∀ x : Nat, impl_Area.f ((rd_T73 l (x : Int)).f1.f0) ((rd_T73 l (x : Int)).f1.f1) ((rd_T73 l (x : Int)).f1.f2) ((rd_T73 l (x : Int)).f1.f3) = some (areaB (bxAt l x)) := fun x => impl_Area_f _ _ _ _
  refine ⟨?_, ?_⟩
  · unfold spec_Choose.f
    refine Evn.step (g' := fun q => spec_Choose.l0 q l (chN l r 0 : Int) ((0 + 1 : Nat) : Int) r.f0 r.f1 r.f2 r.f3) (fun q => ?_) ?_
    · rw [spec_Choose.l0, if_pos (by omega), if_pos (by omega), w01]
      rfl
    refine down (P := fun j => Evn (fun q => spec_Choose.l0 q l (chN l r j : Int) ((j + 1 : Nat) : Int) r.f0 r.f1 r.f2 r.f3) (chN l r n : Int)) n (fun j hj h => ?_) ?_
    · have hb := chN_le l r j
      refine Evn.step (g' := fun q => spec_Choose.l0 q l (chN l r (j + 1) : Int) ((j + 1 + 1 : Nat) : Int) r.f0 r.f1 r.f2 r.f3) (fun q => ?_) h
      rw [spec_Choose.l0, if_pos (by omega), if_neg (by omega), if_pos (by omega), hG, Option.bind_some, if_pos (by omega), if_pos (by omega), hG, Option.bind_some, hA, Option.bind_some, hA, Option.bind_some, wrap_succ (show j + 1 < l.length by omega) hl]
      show _ = spec_Choose.l0 q l (chStep l r (chN l r j) (j + 1) : Int) ((j + 1 + 1 : Nat) : Int) r.f0 r.f1 r.f2 r.f3
      unfold chStep
      split
      · rfl
      · split
        · split <;> rfl
        · rfl
    · refine Evn.step (fun q => ?_) (Evn.ret _)
      rw [spec_Choose.l0, if_neg (by omega)]
  · unfold impl_Choose.f
    refine Evn.step (g' := fun q => impl_Choose.l0 q l (chN l r 0 : Int) l l.length ((0 + 1 : Nat) : Int) r.f0 r.f1 r.f2 r.f3) (fun q => ?_) ?_
    · rw [impl_Choose.l0, if_pos (by omega), if_pos (by omega), if_pos (by omega), if_pos (by omega), w01]
      rfl
    refine down (P := fun j => Evn (fun q => impl_Choose.l0 q l (chN l r j : Int) l l.length ((j + 1 : Nat) : Int) r.f0 r.f1 r.f2 r.f3) (chN l r n : Int)) n (fun j hj h => ?_) ?_
    · have hb := chN_le l r j
      refine Evn.step (g' := fun q => impl_Choose.l0 q l (chN l r (j + 1) : Int) l l.length ((j + 1 + 1 : Nat) : Int) r.f0 r.f1 r.f2 r.f3) (fun q => ?_) h
      rw [impl_Choose.l0, if_pos (by omega), if_pos (by omega), if_pos (by omega), if_neg (by omega), hG', Option.bind_some, if_pos (by omega), if_pos (by omega), hG', Option.bind_some, hA', Option.bind_some, hA', Option.bind_some, wrap_succ (show j + 1 < l.length by omega) hl]
      show _ = impl_Choose.l0 q l (chStep l r (chN l r j) (j + 1) : Int) l l.length ((j + 1 + 1 : Nat) : Int) r.f0 r.f1 r.f2 r.f3
      unfold chStep
      split
      · rfl
      · split
        · split <;> rfl
        · rfl
    · refine Evn.step (fun q => ?_) (Evn.ret _)
      rw [impl_Choose.l0, if_neg (by omega)]


end Go.Proofs.Ytdfdahoceohcjaa.Pure
