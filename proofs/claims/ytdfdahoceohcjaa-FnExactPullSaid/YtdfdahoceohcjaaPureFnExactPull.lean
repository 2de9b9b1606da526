/- The program's Pull returns what the reference's returns, for all arguments. No condition. -/
import Derived.Test.YtdfdahoceohcjaaPureA
import Derived.Test.YtdfdahoceohcjaaArgs
import Derived.Test.YtdfdahoceohcjaaAllx27
namespace Go.Proofs.Ytdfdahoceohcjaa.Pure
open Go.RowKit Go.Proofs.Ytdfdahoceohcjaa.All Go.Proofs.Ytdfdahoceohcjaa.Op
set_option linter.unusedVariables false

theorem FnExactPull (y0 y1 y2 : LBx) (hg0 : good25 y0) (hg1 : good25 y1) (hg2 : good25 y2) : laws_FnExactPull.f y0.f0 y0.f1 y0.f2 y0.f3 y1.f0 y1.f1 y1.f2 y1.f3 y2.f0 y2.f1 y2.f2 y2.f3 = some true := by
  simp only [laws_FnExactPull.f, laws_toBox.f, spec_Pull.f, impl_Pull.f, spec_Growth.f, impl_Growth.f, spec_Join_f, impl_Join_f, spec_Area_f, impl_Area_f, Option.bind_some, if_true]

end Go.Proofs.Ytdfdahoceohcjaa.Pure
