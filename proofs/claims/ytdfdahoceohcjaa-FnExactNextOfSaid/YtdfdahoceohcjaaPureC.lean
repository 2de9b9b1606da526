/- Plain words on boxes that waste, grow and pull. No condition. -/
import Derived.Test.YtdfdahoceohcjaaPureB
namespace Go.Proofs.Ytdfdahoceohcjaa.Pure
open Go.RowKit Go.Proofs.Ytdfdahoceohcjaa.All Go.Proofs.YtdfdahoceohcjaaW.PrintWords Go.Proofs.YtdfdahoceohcjaaW.PrintLast
set_option linter.unusedVariables false

def areaB (b : Bx) : Int := area b.f0 b.f1 b.f2 b.f3
def wasteB (a b : Bx) : Int := wrap64 (wrap64 (areaB (joinB a b) - areaB a) - areaB b)
def growB (a b : Bx) : Int := wrap64 (areaB (joinB a b) - areaB a)
def pullB (a b r : Bx) : Int := wrap64 (growB a r - growB b r)
/-- The box of entry i. -/
def bxAt (l : List En) (i : Nat) : Bx := (l.getD i z73).f1

theorem w01 : wrap64 (0 + 1) = 1 := wrap_small (by omega) (by omega)
theorem w11 : wrap64 (1 + 1) = 2 := wrap_small (by omega) (by omega)


end Go.Proofs.Ytdfdahoceohcjaa.Pure
