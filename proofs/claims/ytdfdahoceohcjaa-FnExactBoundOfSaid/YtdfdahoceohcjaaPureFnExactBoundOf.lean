/- The program's BoundOf returns what the reference's returns, for all arguments. No condition. -/
import Derived.Test.YtdfdahoceohcjaaPureB
import Derived.Test.YtdfdahoceohcjaaArgs
import Derived.Test.YtdfdahoceohcjaaAllx66
namespace Go.Proofs.Ytdfdahoceohcjaa.Pure
open Go.RowKit Go.Proofs.Ytdfdahoceohcjaa.All Go.Proofs.Ytdfdahoceohcjaa.Op
set_option linter.unusedVariables false

theorem FnExactBoundOf (y0 : Bool × List LEn) (hg0 : good55 y0) : ∃ k, laws_FnExactBoundOf.f k y0.1 y0.2 = some true := by
  obtain ⟨b, l⟩ := y0
  apply Evn.some_k
  unfold laws_FnExactBoundOf.f laws_szNode.f
  rw [szEntryS_f _ _ (by omega) hg0.2.1]
  simp only [Option.bind_some]
  by_cases h : (1048576 : Int) < l.length
  · simp only [if_pos h]
    exact Evn.ret _
  · simp only [if_neg h]
    rw [if_neg (by omega)]
    simp only [Option.bind_some]
    refine Evn.neg (by omega) ?_
    have hl : l.length ≤ 1048576 := by omega
    have hm : (l.map toE).length ≤ 1048576 := by rw [List.length_map]; exact hl
    have hn : Evn (fun k => laws_toNode.f k b l) (b, l.map toE) := by
      unfold laws_toNode.f
      exact Evn.bind (toEntryS_f l hl) (Evn.ret _)
    have hi : Evn (fun k => impl_BoundOf.f k b (l.map toE)) (tup (boundE (l.map toE))) := by
      unfold impl_BoundOf.f
      exact Evn.bind (impl_BoxesOf_f _ hm) (Evn.ret _)
    refine Evn.bind hn (Evn.bind (spec_BoundOf_f _ _ hm) (Evn.bind hn (Evn.bind hi ?_)))
    simp only [eqBox_same, Option.bind_some, if_true]
    refine Evn.bind hn (Evn.bind (a := true) ?_ (Evn.ret _))
    unfold laws_eqNode.f
    refine Evn.neg (by simp) ?_
    exact Evn.bind (eqEntryS_same _ (by unfold big; omega)) (Evn.ret _)

end Go.Proofs.Ytdfdahoceohcjaa.Pure
