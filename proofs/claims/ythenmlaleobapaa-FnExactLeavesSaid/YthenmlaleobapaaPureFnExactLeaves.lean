/- The program's Leaves returns what the reference's returns, for all arguments. No condition. -/
import Derived.Test.YthenmlaleobapaaPureMarkInt
import Derived.Test.YthenmlaleobapaaPureMarkBook
import Derived.Test.YthenmlaleobapaaArgs
import Derived.Test.YthenmlaleobapaaPureAll
import Derived.Test.YthenmlaleobapaaChFnExactLeaves
namespace Go.Proofs.Ythenmlaleobapaa.Pure
open Go.RowKit Go.Proofs.Ythenmlaleobapaa.All Go.Proofs.Ythenmlaleobapaa.Op
set_option linter.unusedVariables false

theorem FnExactLeaves (y0 : Int × List LPg) (hg0 : good31 y0) : ∃ k, laws_FnExactLeaves.f k y0.1 y0.2 = some true := by
  obtain ⟨a, l⟩ := y0
  have hg : l.length ≤ 9223372036854775807 ∧ ∀ p ∈ l, p.f1.f1.length ≤ 9223372036854775807 := ⟨hg0.2.1, fun p hp => (hg0.2.2 p hp).2.2.1⟩
  apply Evn.some_k
  unfold laws_FnExactLeaves.f
  refine Evn.bind (szBook_f a l 1048576 (by omega) hg.1 hg.2) ?_
  by_cases h : (1048576 : Int) < l.length + heap l
  · rw [if_pos h]
    exact Evn.ret _
  · rw [if_neg h]
    refine Evn.neg (by omega) ?_
    have hs : Small l := Small.of l (by omega)
    have hm := hs.made
    have hc := bookCost_small _ hm.1 hm.2
    have hn := bookCost_nn (l.map toPg)
    obtain ⟨r, hr, h1, h2⟩ := leaves_both a (l.map toPg) hm.1 hm.2
    have hB := toBook_f a l hs.len hs.ent
    have hq := eqIntS_same r (by unfold big; omega)
    have hM := markBook_f a (l.map toPg) 1 (by decide) (by omega) (by omega)
    have hI := markIntS_f r 1 (by decide) (by omega)
    have hH := heldIntS_f r.length 1 (by decide) (by omega)
    refine Evn.bind hB (Evn.bind (a := r) h1 (Evn.bind hB (Evn.bind (a := r) h2 (Evn.bind hq (Evn.pos rfl ?_)))))
    refine Evn.bind hB (Evn.bind (eqBook_same a _ (big_of hm.1) fun p hp => big_of (hm.2 p hp)) (Evn.pos rfl ?_))
    refine Evn.bind hM (Evn.bind hq (Evn.pos (by omega) (Evn.pos rfl ?_)))
    refine Evn.bind hI (Evn.bind hH (Evn.pos (by omega) (Evn.pos rfl ?_)))
    exact Evn.bind hB (Evn.bind (a := r) h2 (Evn.bind hq (Evn.pos rfl (Evn.bind hH (Evn.pos (by omega) (Evn.pos rfl (Evn.ret _)))))))

end Go.Proofs.Ythenmlaleobapaa.Pure
