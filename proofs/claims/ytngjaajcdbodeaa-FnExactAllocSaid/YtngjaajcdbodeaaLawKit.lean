/- Small lemmas on worlds for the laws' chains. No condition. -/
import Derived.Test.YtngjaajcdbodeaaAllx0
namespace Go.Proofs.Ytngjaajcdbodeaa.All
open Go.RowKit Go.Proofs.YtngjaajcdbodeaaW.PrintWords Go.Proofs.YtngjaajcdbodeaaW.PrintLast Go.Proofs.YtngjaajcdbodeaaW.PrintMore
theorem calls_args {P : Program} {f : FuncId} {args args' : Array Value} {w : World} {Q : Ending → World → Prop} (h : args = args') (hc : Calls P f args' w Q) : Calls P f args w Q := h ▸ hc
end Go.Proofs.Ytngjaajcdbodeaa.All
