/- Plain law of the printed next entry, the program's and the reference's. No condition. -/
import Derived.Test.YtdfdahoceohcjaaPureGrow
import Derived.Test.YtdfdahoceohcjaaAllx47
import Derived.Test.YtdfdahoceohcjaaAllx48
namespace Go.Proofs.Ytdfdahoceohcjaa.Pure
open Go.RowKit Go.Proofs.Ytdfdahoceohcjaa.All Go.Proofs.YtdfdahoceohcjaaW.PrintWords Go.Proofs.YtdfdahoceohcjaaW.PrintLast
set_option linter.unusedVariables false

theorem spec_Pull_f (a b r : Bx) : spec_Pull.f a.f0 a.f1 a.f2 a.f3 b.f0 b.f1 b.f2 b.f3 r.f0 r.f1 r.f2 r.f3 = some (pullB a b r) := by
  simp only [spec_Pull.f, spec_Growth_f, Option.bind_some]; rfl
theorem impl_Pull_f (a b r : Bx) : impl_Pull.f a.f0 a.f1 a.f2 a.f3 b.f0 b.f1 b.f2 b.f3 r.f0 r.f1 r.f2 r.f3 = some (pullB a b r) := by
  simp only [impl_Pull.f, impl_Growth_f, Option.bind_some]; rfl

/-! ### NextOf -/
def absW (n : Int) : Int := if n < 0 then wrap64 (-n) else n
def nxStep (l : List En) (a b : Bx) (m i : Nat) : Nat := if absW (pullB a b (bxAt l i)) > absW (pullB a b (bxAt l m)) then i else m
def nxN (l : List En) (a b : Bx) : Nat → Nat
  | 0 => 0
  | i + 1 => nxStep l a b (nxN l a b i) (i + 1)
theorem nxN_le (l : List En) (a b : Bx) : ∀ i, nxN l a b i ≤ i
  | 0 => Nat.le_refl _
  | i + 1 => by
    have := nxN_le l a b i
    show nxStep l a b (nxN l a b i) (i + 1) ≤ i + 1
    unfold nxStep
    split <;> omega
theorem absW_f (n : Int) : spec_l9Abs.f n = some (absW n) := by
  unfold spec_l9Abs.f absW
  split <;> rfl

theorem nextOf_none (a b : Bx) : Evn (fun q => spec_NextOf.f q [] a.f0 a.f1 a.f2 a.f3 b.f0 b.f1 b.f2 b.f3) (-1) ∧ Evn (fun q => impl_NextOf.f q [] a.f0 a.f1 a.f2 a.f3 b.f0 b.f1 b.f2 b.f3) (-1) := by
  refine ⟨Evn.step (fun q => ?_) (Evn.ret _), Evn.step (fun q => ?_) (Evn.ret _)⟩
  · unfold spec_NextOf.f
    rw [spec_NextOf.l0, if_neg (by simp)]
  · unfold impl_NextOf.f
    rw [impl_NextOf.l0, if_neg (by simp)]

theorem nextOf_some (l : List En) (a b : Bx) (hl : l.length ≤ big) (n : Nat) (hn : l.length = n + 1) :
    Evn (fun q => spec_NextOf.f q l a.f0 a.f1 a.f2 a.f3 b.f0 b.f1 b.f2 b.f3) (nxN l a b n : Int) ∧ Evn (fun q => impl_NextOf.f q l a.f0 a.f1 a.f2 a.f3 b.f0 b.f1 b.f2 b.f3) (nxN l a b n : Int) := by
  have hG : ∀ x : Nat, spec_Pull.f a.f0 a.f1 a.f2 a.f3 b.f0 b.f1 b.f2 b.f3 ((rd_T73 l (x : Int)).f1.f0) ((rd_T73 l (x : Int)).f1.f1) ((rd_T73 l (x : Int)).f1.f2) ((rd_T73 l (x : Int)).f1.f3) = some (pullB a b (bxAt l x)) := fun x => spec_Pull_f a b (bxAt l x)
  have hG' : ∀ x : Nat, impl_Pull.f a.f0 a.f1 a.f2 a.f3 b.f0 b.f1 b.f2 b.f3 ((rd_T73 l (x : Int)).f1.f0) ((rd_T73 l (x : Int)).f1.f1) ((rd_T73 l (x : Int)).f1.f2) ((rd_T73 l (x : Int)).f1.f3) = some (pullB a b (bxAt l x)) := fun x => impl_Pull_f a b (bxAt l x)
  have hG0 : impl_Pull.f a.f0 a.f1 a.f2 a.f3 b.f0 b.f1 b.f2 b.f3 ((rd_T73 l 0).f1.f0) ((rd_T73 l 0).f1.f1) ((rd_T73 l 0).f1.f2) ((rd_T73 l 0).f1.f3) = some (pullB a b (bxAt l 0)) := hG' 0
  refine ⟨?_, ?_⟩
  · unfold spec_NextOf.f
    refine Evn.step (g' := fun q => spec_NextOf.l0 q l (nxN l a b 0 : Int) ((0 + 1 : Nat) : Int) a.f0 a.f1 a.f2 a.f3 b.f0 b.f1 b.f2 b.f3) (fun q => ?_) ?_
    · rw [spec_NextOf.l0, if_pos (by omega), if_pos (by omega), w01]
      rfl
    refine down (P := fun j => Evn (fun q => spec_NextOf.l0 q l (nxN l a b j : Int) ((j + 1 : Nat) : Int) a.f0 a.f1 a.f2 a.f3 b.f0 b.f1 b.f2 b.f3) (nxN l a b n : Int)) n (fun j hj h => ?_) ?_
    · have hb := nxN_le l a b j
      refine Evn.step (g' := fun q => spec_NextOf.l0 q l (nxN l a b (j + 1) : Int) ((j + 1 + 1 : Nat) : Int) a.f0 a.f1 a.f2 a.f3 b.f0 b.f1 b.f2 b.f3) (fun q => ?_) h
      rw [spec_NextOf.l0, if_pos (by omega), if_neg (by omega), if_pos (by omega), hG, Option.bind_some, absW_f, Option.bind_some, if_pos (by omega), if_pos (by omega), hG, Option.bind_some, absW_f, Option.bind_some, wrap_succ (show j + 1 < l.length by omega) hl]
      show _ = spec_NextOf.l0 q l (nxStep l a b (nxN l a b j) (j + 1) : Int) ((j + 1 + 1 : Nat) : Int) a.f0 a.f1 a.f2 a.f3 b.f0 b.f1 b.f2 b.f3
      unfold nxStep
      split <;> rfl
    · refine Evn.step (fun q => ?_) (Evn.ret _)
      rw [spec_NextOf.l0, if_neg (by omega)]
  · unfold impl_NextOf.f
    refine Evn.step (g' := fun q => impl_NextOf.l0 q (nxN l a b 0 : Int) (absW (pullB a b (bxAt l (nxN l a b 0)))) l l.length ((0 + 1 : Nat) : Int) a.f0 a.f1 a.f2 a.f3 b.f0 b.f1 b.f2 b.f3) (fun q => ?_) ?_
    · rw [impl_NextOf.l0, if_pos (by omega), if_pos (by omega), if_pos (by omega), hG0, Option.bind_some, w01]
      show _ = impl_NextOf.l0 q 0 (absW (pullB a b (bxAt l 0))) l l.length 1 a.f0 a.f1 a.f2 a.f3 b.f0 b.f1 b.f2 b.f3
      unfold absW
      split
      · rw [if_pos (by omega)]
      · rw [if_pos (by omega)]
    refine down (P := fun j => Evn (fun q => impl_NextOf.l0 q (nxN l a b j : Int) (absW (pullB a b (bxAt l (nxN l a b j)))) l l.length ((j + 1 : Nat) : Int) a.f0 a.f1 a.f2 a.f3 b.f0 b.f1 b.f2 b.f3) (nxN l a b n : Int)) n (fun j hj h => ?_) ?_
    · have hb := nxN_le l a b j
      refine Evn.step (g' := fun q => impl_NextOf.l0 q (nxN l a b (j + 1) : Int) (absW (pullB a b (bxAt l (nxN l a b (j + 1))))) l l.length ((j + 1 + 1 : Nat) : Int) a.f0 a.f1 a.f2 a.f3 b.f0 b.f1 b.f2 b.f3) (fun q => ?_) h
      rw [impl_NextOf.l0, if_pos (by omega), if_pos (by omega), if_pos (by omega), hG', Option.bind_some, wrap_succ (show j + 1 < l.length by omega) hl]
      show _ = impl_NextOf.l0 q (nxStep l a b (nxN l a b j) (j + 1) : Int) (absW (pullB a b (bxAt l (nxStep l a b (nxN l a b j) (j + 1))))) l l.length ((j + 1 + 1 : Nat) : Int) a.f0 a.f1 a.f2 a.f3 b.f0 b.f1 b.f2 b.f3
      have hneg : ¬ ((nxN l a b j : Nat) : Int) < 0 := by omega
      by_cases hp : pullB a b (bxAt l (j + 1)) < 0
      · have e : absW (pullB a b (bxAt l (j + 1))) = wrap64 (-(pullB a b (bxAt l (j + 1)))) := by unfold absW; rw [if_pos hp]
        rw [if_pos hp, if_neg hneg, ← e]
        unfold nxStep
        by_cases hc : absW (pullB a b (bxAt l (j + 1))) > absW (pullB a b (bxAt l (nxN l a b j)))
        · rw [if_pos hc, if_pos hc]
        · rw [if_neg hc, if_neg hc]
      · have e : absW (pullB a b (bxAt l (j + 1))) = pullB a b (bxAt l (j + 1)) := by unfold absW; rw [if_neg hp]
        rw [if_neg hp, if_neg hneg]
        unfold nxStep
        by_cases hc : absW (pullB a b (bxAt l (j + 1))) > absW (pullB a b (bxAt l (nxN l a b j)))
        · rw [if_pos hc, if_pos (by rw [← e]; exact hc), e]
        · rw [if_neg hc, if_neg (by rw [← e]; exact hc)]
    · refine Evn.step (fun q => ?_) (Evn.ret _)
      rw [impl_NextOf.l0, if_neg (by omega)]

end Go.Proofs.Ytdfdahoceohcjaa.Pure
