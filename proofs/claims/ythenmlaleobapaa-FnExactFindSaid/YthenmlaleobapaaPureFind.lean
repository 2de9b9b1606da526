/- Plain law of the printed Find, the program's and the reference's. No condition. -/
import Derived.Test.YthenmlaleobapaaPureAll
import Derived.Test.YthenmlaleobapaaAllx54
import Derived.Test.YthenmlaleobapaaAllx60
namespace Go.Proofs.Ythenmlaleobapaa.Pure
open Go.RowKit Go.Proofs.Ythenmlaleobapaa.All Go.Proofs.YthenmlaleobapaaW.PrintWords Go.Proofs.YthenmlaleobapaaW.PrintLast
set_option linter.unusedVariables false

theorem itemAt_loop (l : List It) (n : Int) (hl : l.length ≤ 1099511627776) : ∀ d x : Nat, x + d = l.length → ∃ j : Int, j < l.length ∧ Evn (fun k => spec_ItemAt.l0 k l n (x : Int)) j ∧ Evn (fun k => impl_ItemAt.l0 k l n (x : Int)) j
  | 0, x, hx => ⟨-1, by omega, Evn.step (fun k => by rw [spec_ItemAt.l0, if_neg (by omega)]) (Evn.ret _), Evn.step (fun k => by rw [impl_ItemAt.l0, if_neg (by omega)]) (Evn.ret _)⟩
  | d + 1, x, hx => by
    have hw : wrap64 ((x : Int) + 1) = ((x + 1 : Nat) : Int) := by
      unfold wrap64
      omega
    by_cases h : (rd_T68 l (x : Int)).f0 = n
    · exact ⟨x, by omega, Evn.step (fun k => by rw [spec_ItemAt.l0, if_pos (by omega), if_pos (by omega), if_pos h]) (Evn.ret _), Evn.step (fun k => by rw [impl_ItemAt.l0, if_pos (by omega), if_pos (by omega), if_pos h]) (Evn.ret _)⟩
    · obtain ⟨j, h0, h1, h2⟩ := itemAt_loop l n hl d (x + 1) (by omega)
      exact ⟨j, h0, Evn.step (fun k => by rw [spec_ItemAt.l0, if_pos (by omega), if_pos (by omega), if_neg h, hw]) h1, Evn.step (fun k => by rw [impl_ItemAt.l0, if_pos (by omega), if_pos (by omega), if_neg h, hw]) h2⟩
theorem find_both (a : Int) (l : List Pg) (n : Int) (hl : l.length ≤ 1048576) (hp : ∀ p ∈ l, p.f1.f1.length ≤ 1048576) : ∃ r, Evn (fun k => spec_Find.f k a l n) r ∧ Evn (fun k => impl_Find.f k a l n) r := by
  obtain ⟨q, hq, h1, h2⟩ := all_both a l hl hp
  obtain ⟨j, h0, h3, h4⟩ := itemAt_loop q n hq q.length 0 (by omega)
  by_cases hj : j < 0
  · exact ⟨(0, 0, 0, 0, false), Evn.bind h1 (Evn.bind h3 (Evn.pos hj (Evn.ret _))), Evn.bind h2 (Evn.bind h4 (Evn.pos hj (Evn.ret _)))⟩
  · exact ⟨_, Evn.bind h1 (Evn.bind h3 (Evn.neg hj (Evn.pos (by omega) (Evn.pos (by omega) (Evn.ret _))))), Evn.bind h2 (Evn.bind h4 (Evn.neg hj (Evn.pos (by omega) (Evn.pos (by omega) (Evn.ret _)))))⟩

end Go.Proofs.Ythenmlaleobapaa.Pure
