/- Plain law of the printed test of order, the program's and the reference's. No condition. -/
import Derived.Test.YthenmlaleobapaaPureItems
import Derived.Test.YthenmlaleobapaaPureKey
import Derived.Test.YthenmlaleobapaaAllx7
import Derived.Test.YthenmlaleobapaaAllx20
namespace Go.Proofs.Ythenmlaleobapaa.Pure
open Go.RowKit Go.Proofs.Ythenmlaleobapaa.All Go.Proofs.YthenmlaleobapaaW.PrintWords Go.Proofs.YthenmlaleobapaaW.PrintLast
set_option linter.unusedVariables false

/-- From item i on none is ahead of the one before it. -/
noncomputable def ordFrom (l : List It) : Nat → Nat → Bool
  | 0, _ => true
  | d + 1, i => if aheadB (l.getD i z68) (l.getD (i - 1) z68) = true then false else ordFrom l d (i + 1)
theorem ord_loops (l : List It) (hl : l.length ≤ big) : ∀ (d i : Nat), 1 ≤ i → i + d = max l.length 1 → Evn (fun k => spec_InOrder.l0 k l (i : Int)) (ordFrom l d i) ∧ Evn (fun k => impl_InOrder.l0 k l (i : Int)) (ordFrom l d i)
  | 0, i, h1, hd => by
    refine ⟨Evn.step (fun k => ?_) (Evn.ret _), Evn.step (fun k => ?_) (Evn.ret _)⟩
    · rw [spec_InOrder.l0, if_neg (by omega)]
      rfl
    · rw [impl_InOrder.l0, if_neg (by omega)]
      rfl
  | d + 1, i, h1, hd => by
    have hi : i < l.length := by omega
    have hw : wrap64 ((i : Int) - 1) = ((i - 1 : Nat) : Int) := by
      unfold big at hl
      rw [wrap_small (by omega) (by omega)]
      omega
    obtain ⟨ih1, ih2⟩ := ord_loops l hl d (i + 1) (by omega) (by omega)
    have hA := spec_Ahead_f (l.getD i z68) (l.getD (i - 1) z68)
    have hA' := impl_Ahead_f (l.getD i z68) (l.getD (i - 1) z68)
    refine ⟨Evn.step (fun k => by rw [spec_InOrder.l0, if_pos (by omega), if_pos (by omega), hw, if_pos (by omega), if_pos (by omega), wrap_succ hi hl]) ?_, Evn.step (fun k => by rw [impl_InOrder.l0, if_pos (by omega), if_pos (by omega), hw, if_pos (by omega), if_pos (by omega), wrap_succ hi hl]) ?_⟩
    · refine Evn.bind hA ?_
      show Evn _ (if aheadB (l.getD i z68) (l.getD (i - 1) z68) = true then false else ordFrom l d (i + 1))
      by_cases ha : aheadB (l.getD i z68) (l.getD (i - 1) z68) = true
      · rw [if_pos ha]
        exact Evn.pos ha (Evn.ret _)
      · rw [if_neg ha]
        exact Evn.neg ha ih1
    · refine Evn.bind hA' ?_
      show Evn _ (if aheadB (l.getD i z68) (l.getD (i - 1) z68) = true then false else ordFrom l d (i + 1))
      by_cases ha : aheadB (l.getD i z68) (l.getD (i - 1) z68) = true
      · rw [if_pos ha]
        exact Evn.pos ha (Evn.ret _)
      · rw [if_neg ha]
        exact Evn.neg ha ih2
noncomputable def inOrderB (l : List It) : Bool := ordFrom l (max l.length 1 - 1) 1
theorem spec_InOrder_f (l : List It) (hl : l.length ≤ big) : Evn (fun k => spec_InOrder.f k l) (inOrderB l) := (ord_loops l hl _ 1 (by omega) (by omega)).1
theorem impl_InOrder_f (l : List It) (hl : l.length ≤ big) : Evn (fun k => impl_InOrder.f k l) (inOrderB l) := (ord_loops l hl _ 1 (by omega) (by omega)).2

end Go.Proofs.Ythenmlaleobapaa.Pure
