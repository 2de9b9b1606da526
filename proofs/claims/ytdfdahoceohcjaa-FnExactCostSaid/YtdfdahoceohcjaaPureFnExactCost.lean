/- The program's Cost returns what the reference's returns, for all arguments. No condition. -/
import Derived.Test.YtdfdahoceohcjaaPureB
import Derived.Test.YtdfdahoceohcjaaArgs
import Derived.Test.YtdfdahoceohcjaaAllx69
namespace Go.Proofs.Ytdfdahoceohcjaa.Pure
open Go.RowKit Go.Proofs.Ytdfdahoceohcjaa.All Go.Proofs.Ytdfdahoceohcjaa.Op
set_option linter.unusedVariables false

theorem FnExactCost (y0 y1 : List LEn) (hg0 : good32 y0) (hg1 : good32 y1) : ∃ k, laws_FnExactCost.f k y0 y1 = some true := by
  apply Evn.some_k
  unfold laws_FnExactCost.f
  rw [szEntryS_f _ _ (by omega) hg0.1]
  simp only [Option.bind_some]
  by_cases h : (1048576 : Int) < y0.length
  · rw [if_pos h]
    exact Evn.ret _
  · rw [if_neg h]
    refine Evn.neg (by omega) ?_
    rw [szEntryS_f _ _ (by omega) hg1.1]
    simp only [Option.bind_some]
    by_cases h' : (1048576 : Int) - y0.length < y1.length
    · rw [if_pos h']
      exact Evn.ret _
    · rw [if_neg h']
      refine Evn.neg (by omega) ?_
      have hl : y0.length ≤ 1048576 := by omega
      have hm : (y0.map toE).length ≤ 1048576 := by rw [List.length_map]; exact hl
      have hl1 : y1.length ≤ 1048576 := by omega
      have hm1 : (y1.map toE).length ≤ 1048576 := by rw [List.length_map]; exact hl1
      refine Evn.bind (toEntryS_f y0 hl) (Evn.bind (toEntryS_f y1 hl1) (Evn.bind (a := wrap64 (area (boundE (y0.map toE)).f0 (boundE (y0.map toE)).f1 (boundE (y0.map toE)).f2 (boundE (y0.map toE)).f3 + area (boundE (y1.map toE)).f0 (boundE (y1.map toE)).f1 (boundE (y1.map toE)).f2 (boundE (y1.map toE)).f3)) ?_ (Evn.bind (toEntryS_f y0 hl) (Evn.bind (toEntryS_f y1 hl1) (Evn.bind (a := wrap64 (area (boundE (y0.map toE)).f0 (boundE (y0.map toE)).f1 (boundE (y0.map toE)).f2 (boundE (y0.map toE)).f3 + area (boundE (y1.map toE)).f0 (boundE (y1.map toE)).f1 (boundE (y1.map toE)).f2 (boundE (y1.map toE)).f3)) ?_ ?_)))))
      · unfold spec_Cost.f
        exact Evn.bind (spec_BoxesOf_f _ hm) (Evn.bind (Evn.const fun _ => spec_Area_f _ _ _ _) (Evn.bind (spec_BoxesOf_f _ hm1) (Evn.bind (Evn.const fun _ => spec_Area_f _ _ _ _) (Evn.ret _))))
      · unfold impl_Cost.f
        exact Evn.bind (impl_BoxesOf_f _ hm) (Evn.bind (Evn.const fun _ => impl_Area_f _ _ _ _) (Evn.bind (impl_BoxesOf_f _ hm1) (Evn.bind (Evn.const fun _ => impl_Area_f _ _ _ _) (Evn.ret _))))
      · refine Evn.pos rfl ?_
        refine Evn.bind (toEntryS_f y0 hl) (Evn.bind (eqEntryS_same _ (by unfold big; omega)) ?_)
        simp only [if_true]
        refine Evn.bind (toEntryS_f y1 hl1) (Evn.bind (eqEntryS_same _ (by unfold big; omega)) ?_)
        exact Evn.ret _

end Go.Proofs.Ytdfdahoceohcjaa.Pure
