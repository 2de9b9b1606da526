/- The program's Find returns what the reference's returns, for all arguments. No condition. -/
import Derived.Test.YthenmlaleobapaaPureBook
import Derived.Test.YthenmlaleobapaaArgs
import Derived.Test.YthenmlaleobapaaPureFind
import Derived.Test.YthenmlaleobapaaAllx61
namespace Go.Proofs.Ythenmlaleobapaa.Pure
open Go.RowKit Go.Proofs.Ythenmlaleobapaa.All Go.Proofs.Ythenmlaleobapaa.Op
set_option linter.unusedVariables false

theorem FnExactFind (y0 : Int × List LPg) (y1 : Int) (hg0 : good31 y0) (hg1 : good3 y1) : ∃ k, laws_FnExactFind.f k y0.1 y0.2 y1 = some true := by
  obtain ⟨a, l⟩ := y0
  have hg : l.length ≤ 9223372036854775807 ∧ ∀ p ∈ l, p.f1.f1.length ≤ 9223372036854775807 := ⟨hg0.2.1, fun p hp => (hg0.2.2 p hp).2.2.1⟩
  apply Evn.some_k
  unfold laws_FnExactFind.f
  refine Evn.bind (szBook_f a l 1048576 (by omega) hg.1 hg.2) ?_
  by_cases h : (1048576 : Int) < l.length + heap l
  · rw [if_pos h]
    exact Evn.ret _
  · rw [if_neg h]
    refine Evn.neg (by omega) ?_
    have hs : Small l := Small.of l (by omega)
    have hm := hs.made
    obtain ⟨r, h1, h2⟩ := find_both a (l.map toPg) y1 hm.1 hm.2
    refine Evn.bind (toBook_f a l hs.len hs.ent) (Evn.bind h1 (Evn.bind (toBook_f a l hs.len hs.ent) (Evn.bind h2 (Evn.bind (Evn.const fun _ => eqBox_same _ _ _ _) (Evn.pos rfl ?_)))))
    refine Evn.step (fun k => by rw [laws_FnExactFind.j0, if_neg (by simp)]) ?_
    exact Evn.bind (toBook_f a l hs.len hs.ent) (Evn.bind (eqBook_same a _ (big_of hm.1) fun p hp => big_of (hm.2 p hp)) (Evn.ret _))

end Go.Proofs.Ythenmlaleobapaa.Pure
