/- Plain law of the printed growths. No condition. -/
import Derived.Test.YtdfdahoceohcjaaPureC
import Derived.Test.YtdfdahoceohcjaaAllx23
import Derived.Test.YtdfdahoceohcjaaAllx25
namespace Go.Proofs.Ytdfdahoceohcjaa.Pure
open Go.RowKit Go.Proofs.Ytdfdahoceohcjaa.All Go.Proofs.YtdfdahoceohcjaaW.PrintWords Go.Proofs.YtdfdahoceohcjaaW.PrintLast
set_option linter.unusedVariables false

theorem spec_Growth_f (a b : Bx) : spec_Growth.f a.f0 a.f1 a.f2 a.f3 b.f0 b.f1 b.f2 b.f3 = some (growB a b) := by
  simp only [spec_Growth.f, spec_Join_f, spec_Area_f, Option.bind_some]; rfl
theorem impl_Growth_f (a b : Bx) : impl_Growth.f a.f0 a.f1 a.f2 a.f3 b.f0 b.f1 b.f2 b.f3 = some (growB a b) := by
  simp only [impl_Growth.f, impl_Join_f, impl_Area_f, Option.bind_some]; rfl

end Go.Proofs.Ytdfdahoceohcjaa.Pure
