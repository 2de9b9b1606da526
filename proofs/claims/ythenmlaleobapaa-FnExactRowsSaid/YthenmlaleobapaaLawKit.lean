/- Small lemmas on worlds for the laws' chains. No condition. -/
import Derived.Test.YthenmlaleobapaaAllx0
namespace Go.Proofs.Ythenmlaleobapaa.All
open Go.RowKit Go.Proofs.YthenmlaleobapaaW.PrintWords Go.Proofs.YthenmlaleobapaaW.PrintLast Go.Proofs.YthenmlaleobapaaW.PrintMore
theorem calls_args {P : Program} {f : FuncId} {args args' : Array Value} {w : World} {Q : Ending → World → Prop} (h : args = args') (hc : Calls P f args' w Q) : Calls P f args w Q := h ▸ hc
end Go.Proofs.Ythenmlaleobapaa.All
