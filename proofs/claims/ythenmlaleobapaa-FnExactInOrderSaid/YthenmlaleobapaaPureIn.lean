/- Plain laws of the printed interval tests. No condition. -/
import Derived.Test.YthenmlaleobapaaPureA0
import Derived.Test.YthenmlaleobapaaAllx3
import Derived.Test.YthenmlaleobapaaAllx14
namespace Go.Proofs.Ythenmlaleobapaa.Pure
open Go.RowKit Go.Proofs.Ythenmlaleobapaa.All Go.Proofs.YthenmlaleobapaaW.PrintWords Go.Proofs.YthenmlaleobapaaW.PrintLast
set_option linter.unusedVariables false

theorem spec_l1In_f (a b c : Int) : spec_l1In.f a b c = some (decide (b ≤ a ∧ a ≤ c)) := by
  unfold spec_l1In.f
  split <;> simp_all
  omega
theorem impl_in_f (a b c : Int) : impl_in.f a b c = some (decide (b ≤ a ∧ a ≤ c)) := by
  unfold impl_in.f
  split <;> simp_all
  omega

end Go.Proofs.Ythenmlaleobapaa.Pure
