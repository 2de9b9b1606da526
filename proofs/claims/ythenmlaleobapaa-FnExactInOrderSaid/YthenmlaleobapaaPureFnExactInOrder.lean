/- The program's InOrder returns what the reference's returns, for all arguments. No condition. -/
import Derived.Test.YthenmlaleobapaaPureInOrder
import Derived.Test.YthenmlaleobapaaArgs
import Derived.Test.YthenmlaleobapaaAllx24
namespace Go.Proofs.Ythenmlaleobapaa.Pure
open Go.RowKit Go.Proofs.Ythenmlaleobapaa.All Go.Proofs.Ythenmlaleobapaa.Op
set_option linter.unusedVariables false

theorem FnExactInOrder (y0 : List LIt) (hg0 : good22 y0) : ∃ k, laws_FnExactInOrder.f k y0 = some true := by
  apply Evn.some_k
  unfold laws_FnExactInOrder.f
  rw [szItemS_f _ _ (by omega) hg0.1]
  simp only [Option.bind_some]
  by_cases h : (1048576 : Int) < y0.length
  · rw [if_pos h]
    exact Evn.ret _
  · rw [if_neg h]
    refine Evn.neg (by omega) ?_
    have hl : y0.length ≤ 1048576 := by omega
    have hm : (y0.map toI).length ≤ big := by rw [List.length_map]; unfold big; omega
    refine Evn.bind (toItemS_f y0 hl) (Evn.bind (spec_InOrder_f _ hm) (Evn.bind (toItemS_f y0 hl) (Evn.bind (impl_InOrder_f _ hm) (Evn.neg (by simp) ?_))))
    exact Evn.bind (toItemS_f y0 hl) (Evn.bind (eqItemS_same _ hm) (Evn.ret _))

end Go.Proofs.Ythenmlaleobapaa.Pure
