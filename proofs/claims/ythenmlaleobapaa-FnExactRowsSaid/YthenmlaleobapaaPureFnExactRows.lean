/- The program's Rows returns what the reference's returns, for all arguments. No condition. -/
import Derived.Test.YthenmlaleobapaaPureMarkRows
import Derived.Test.YthenmlaleobapaaPureRows
import Derived.Test.YthenmlaleobapaaArgs
import Derived.Test.YthenmlaleobapaaChFnExactRows
namespace Go.Proofs.Ythenmlaleobapaa.Pure
open Go.RowKit Go.Proofs.Ythenmlaleobapaa.All Go.Proofs.Ythenmlaleobapaa.Op
set_option linter.unusedVariables false

theorem FnExactRows (y0 : List LEn) (hg0 : good40 y0) : ∃ k, laws_FnExactRows.f k y0 = some true := by
  apply Evn.some_k
  unfold laws_FnExactRows.f
  rw [szEntryS_f _ _ (by omega) hg0.1]
  simp only [Option.bind_some]
  by_cases h : (1048576 : Int) < y0.length
  · rw [if_pos h]
    exact Evn.ret _
  · rw [if_neg h]
    refine Evn.neg (by omega) ?_
    have hl : y0.length ≤ 1048576 := by omega
    have hm : (y0.map toE).length ≤ 1048576 := by rw [List.length_map]; exact hl
    have hT := toEntryS_f y0 hl
    obtain ⟨R, h1, h2, h3, h4⟩ := rows_both _ hm
    have hb : ∀ {n : Nat}, n ≤ 2097152 → n ≤ big := fun h => by unfold big; omega
    have hq := eqEntrySS_same R (hb (by omega)) (fun p hp => hb (by have := h4 p hp; omega))
    have hc := rowsCost_le 4 R h4
    have hn := rowsCost_nn R
    have hM := markEntryS_f (y0.map toE) 1 (by decide) (by omega)
    have hI := markEntrySS_f R 1 (by decide) (by omega) (by omega)
    have hH := heldEntrySS_f R 1 (by decide) (by omega) (by omega)
    refine Evn.bind hT (Evn.bind h1 (Evn.bind hT (Evn.bind h2 (Evn.bind hq (Evn.pos rfl ?_)))))
    refine Evn.bind hT (Evn.bind (eqEntryS_same _ (hb (by omega))) (Evn.pos rfl ?_))
    refine Evn.bind hM (Evn.bind hq (Evn.pos (by omega) (Evn.pos rfl ?_)))
    refine Evn.bind hI (Evn.bind hH (Evn.pos (by omega) (Evn.pos rfl ?_)))
    exact Evn.bind hT (Evn.bind h2 (Evn.bind hq (Evn.pos rfl (Evn.bind hH (Evn.pos (by omega) (Evn.pos rfl (Evn.ret _)))))))

end Go.Proofs.Ythenmlaleobapaa.Pure
