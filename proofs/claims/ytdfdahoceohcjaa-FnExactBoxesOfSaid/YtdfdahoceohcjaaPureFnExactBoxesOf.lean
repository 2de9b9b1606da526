/- The program's BoxesOf returns what the reference's returns, for all arguments. No condition. -/
import Derived.Test.YtdfdahoceohcjaaPureB
import Derived.Test.YtdfdahoceohcjaaArgs
import Derived.Test.YtdfdahoceohcjaaAllx39
namespace Go.Proofs.Ytdfdahoceohcjaa.Pure
open Go.RowKit Go.Proofs.Ytdfdahoceohcjaa.All Go.Proofs.Ytdfdahoceohcjaa.Op
set_option linter.unusedVariables false

theorem FnExactBoxesOf (y0 : List LEn) (hg0 : good32 y0) : ∃ k, laws_FnExactBoxesOf.f k y0 = some true := by
  apply Evn.some_k
  unfold laws_FnExactBoxesOf.f
  rw [szEntryS_f _ _ (by omega) hg0.1]
  simp only [Option.bind_some]
  by_cases h : (1048576 : Int) < y0.length
  · rw [if_pos h]
    exact Evn.ret _
  · rw [if_neg h]
    refine Evn.neg (by omega) ?_
    have hl : y0.length ≤ 1048576 := by omega
    have hm : (y0.map toE).length ≤ 1048576 := by rw [List.length_map]; exact hl
    refine Evn.bind (toEntryS_f y0 hl) (Evn.bind (spec_BoxesOf_f _ hm) (Evn.bind (toEntryS_f y0 hl) (Evn.bind (impl_BoxesOf_f _ hm) ?_)))
    simp only [eqBox_same, Option.bind_some, if_true]
    exact Evn.bind (toEntryS_f y0 hl) (Evn.bind (eqEntryS_same _ (by unfold big; omega)) (Evn.ret _))

end Go.Proofs.Ytdfdahoceohcjaa.Pure
