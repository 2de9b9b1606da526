/- The program's Alloc returns what the reference's returns, for all arguments. No condition. -/
import Derived.Test.YtngjaajcdbodeaaPureAlloc
import Derived.Test.YtngjaajcdbodeaaArgs
import Derived.Test.YtngjaajcdbodeaaChFnExactAlloc
namespace Go.Proofs.Ytngjaajcdbodeaa.Pure
open Go.RowKit Go.Proofs.Ytngjaajcdbodeaa.All Go.Proofs.Ytngjaajcdbodeaa.Op
set_option linter.unusedVariables false

theorem FnExactAlloc (y0 : Int × List LPg) (hg0 : good41 y0) : ∃ k, laws_FnExactAlloc.f k y0.1 y0.2 = some true := by
  obtain ⟨a, l⟩ := y0
  have hg : l.length ≤ 9223372036854775807 ∧ ∀ p ∈ l, p.f1.f1.length ≤ 9223372036854775807 := ⟨hg0.2.1, fun p hp => (hg0.2.2 p hp).2.2.1⟩
  apply Evn.some_k
  unfold laws_FnExactAlloc.f
  refine Evn.bind (szBook_f a l 1048576 (by omega) hg.1 hg.2) ?_
  by_cases h : (1048576 : Int) < l.length + heap l
  · rw [if_pos h]
    exact Evn.ret _
  · rw [if_neg h]
    refine Evn.neg (by omega) ?_
    have hs : Small l := Small.of l (by omega)
    have hm := hs.made
    have hF := Fair.of hm.1 hm.2
    obtain ⟨q, n, hQ, h1, h2⟩ := alloc_both a (l.map toPg) hm.1 hm.2
    have hB := toBook_f a l hs.len hs.ent
    have c1 := bookCost_nn (l.map toPg)
    have c2 := bookCost_nn q
    refine Evn.bind hB (Evn.bind h1 (Evn.bind hB (Evn.bind h2 (Evn.bind (hQ.same a) (Evn.pos rfl (Evn.pos rfl ?_))))))
    refine Evn.bind hB (Evn.bind (hF.same a) (Evn.pos rfl ?_))
    refine Evn.bind (hF.mark a) (Evn.bind (hQ.same a) (Evn.pos (by omega) (Evn.pos rfl (Evn.pos rfl ?_))))
    refine Evn.bind (hQ.mark a) (Evn.bind (hQ.held a) (Evn.pos (by omega) (Evn.pos rfl ?_)))
    exact Evn.bind hB (Evn.bind h2 (Evn.bind (hQ.same a) (Evn.pos rfl (Evn.pos rfl (Evn.bind (hQ.held a) (Evn.pos (by omega) (Evn.pos rfl (Evn.ret _))))))))

end Go.Proofs.Ytngjaajcdbodeaa.Pure
