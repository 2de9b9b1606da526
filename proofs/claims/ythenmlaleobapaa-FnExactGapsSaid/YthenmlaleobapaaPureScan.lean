/- Plain laws of the printed scans over pages: the first free one, the last used one, the gaps. No condition. -/
import Derived.Test.YthenmlaleobapaaPureBook
import Derived.Test.YthenmlaleobapaaAllx30
import Derived.Test.YthenmlaleobapaaAllx37
import Derived.Test.YthenmlaleobapaaAllx45
import Derived.Test.YthenmlaleobapaaAllx46
import Derived.Test.YthenmlaleobapaaAllx48
import Derived.Test.YthenmlaleobapaaAllx49
namespace Go.Proofs.Ythenmlaleobapaa.Pure
open Go.RowKit Go.Proofs.Ythenmlaleobapaa.All Go.Proofs.YthenmlaleobapaaW.PrintWords Go.Proofs.YthenmlaleobapaaW.PrintLast
set_option linter.unusedVariables false

theorem firstFree_both (a : Int) (l : List Pg) (hl : l.length ≤ 1048576) (hp : ∀ p ∈ l, p.f1.f1.length ≤ 1048576) : ∃ r : Int, Evn (fun k => spec_FirstFree.f k a l) r ∧ Evn (fun k => impl_FirstFree.f k a l) r := by
  unfold spec_FirstFree.f impl_FirstFree.f
  refine down (P := fun i => ∃ r : Int, Evn (fun k => spec_FirstFree.l0 k (i : Int) a l) r ∧ Evn (fun k => impl_FirstFree.l0 k l l.length (i : Int)) r) l.length (fun i hi h => ?_) ?_
  · obtain ⟨r, h1, h2⟩ := h
    by_cases hu : (l[i]).f0 = true
    · refine ⟨r, Evn.step (fun k => ?_) h1, Evn.step (fun k => ?_) h2⟩
      · rw [spec_FirstFree.l0, if_pos (by omega), if_pos (by omega), rdPg_at l i hi, if_pos hu, wrap_succ hi (big_of hl)]
      · rw [impl_FirstFree.l0, if_pos (by omega), if_pos (by omega), if_pos (by omega), rdPg_at l i hi, if_pos hu, wrap_succ hi (big_of hl)]
    · refine ⟨i, Evn.step (fun k => ?_) (Evn.ret _), Evn.step (fun k => ?_) (Evn.ret _)⟩
      · rw [spec_FirstFree.l0, if_pos (by omega), if_pos (by omega), rdPg_at l i hi, if_neg hu]
      · rw [impl_FirstFree.l0, if_pos (by omega), if_pos (by omega), if_pos (by omega), rdPg_at l i hi, if_neg hu]
  · refine ⟨-1, Evn.step (fun k => ?_) (Evn.ret _), Evn.step (fun k => ?_) (Evn.ret _)⟩
    · rw [spec_FirstFree.l0, if_neg (by omega)]
    · rw [impl_FirstFree.l0, if_neg (by omega)]

theorem lastUsed_both (a : Int) (l : List Pg) (hl : l.length ≤ 1048576) (hp : ∀ p ∈ l, p.f1.f1.length ≤ 1048576) : ∃ r : Int, Evn (fun k => spec_LastUsed.f k a l) r ∧ Evn (fun k => impl_LastUsed.f k a l) r := by
  unfold spec_LastUsed.f impl_LastUsed.f
  have key : ∀ n : Nat, n ≤ l.length → ∃ r : Int, Evn (fun k => spec_LastUsed.l0 k (wrap64 ((n : Int) - 1)) a l) r ∧ Evn (fun k => impl_LastUsed.l0 k (wrap64 ((n : Int) - 1)) a l) r := by
    intro n
    induction n with
    | zero =>
      intro _
      rw [wrap_small (by omega) (by omega)]
      refine ⟨-1, Evn.step (fun k => ?_) (Evn.ret _), Evn.step (fun k => ?_) (Evn.ret _)⟩
      · rw [spec_LastUsed.l0, if_neg (by omega)]
      · rw [impl_LastUsed.l0, if_neg (by omega)]
    | succ n ih =>
      intro hn
      obtain ⟨r, h1, h2⟩ := ih (by omega)
      have e : wrap64 (((n + 1 : Nat) : Int) - 1) = (n : Int) := by rw [wrap_small (by omega) (by omega)]; omega
      rw [e]
      have hi : n < l.length := by omega
      by_cases hu : (l[n]).f0 = true
      · refine ⟨n, Evn.step (fun k => ?_) (Evn.ret _), Evn.step (fun k => ?_) (Evn.ret _)⟩
        · rw [spec_LastUsed.l0, if_pos (by omega), if_pos (by omega), if_pos (by omega), rdPg_at l n hi, if_pos hu]
        · rw [impl_LastUsed.l0, if_pos (by omega), if_pos (by omega), if_pos (by omega), rdPg_at l n hi, if_pos hu]
      · refine ⟨r, Evn.step (fun k => ?_) h1, Evn.step (fun k => ?_) h2⟩
        · rw [spec_LastUsed.l0, if_pos (by omega), if_pos (by omega), if_pos (by omega), rdPg_at l n hi, if_neg hu]
        · rw [impl_LastUsed.l0, if_pos (by omega), if_pos (by omega), if_pos (by omega), rdPg_at l n hi, if_neg hu]
  exact key l.length (Nat.le_refl _)

theorem gaps_both (a : Int) (l : List Pg) (hl : l.length ≤ 1048576) (hp : ∀ p ∈ l, p.f1.f1.length ≤ 1048576) : ∃ r : Int, Evn (fun k => spec_Gaps.f k a l) r ∧ Evn (fun k => impl_Gaps.f k a l) r := by
  unfold spec_Gaps.f impl_Gaps.f
  refine down (P := fun i => ∀ c : Int, ∃ r : Int, Evn (fun k => spec_Gaps.l0 k c (i : Int) a l) r ∧ Evn (fun k => impl_Gaps.l0 k c l l.length (i : Int)) r) l.length (fun i hi h c => ?_) (fun c => ?_) 0
  · by_cases hu : (l[i]).f0 = true
    · obtain ⟨r, h1, h2⟩ := h c
      refine ⟨r, Evn.step (fun k => ?_) h1, Evn.step (fun k => ?_) h2⟩
      · rw [spec_Gaps.l0, if_pos (by omega), if_pos (by omega), rdPg_at l i hi, if_pos hu, wrap_succ hi (big_of hl)]
      · rw [impl_Gaps.l0, if_pos (by omega), if_pos (by omega), if_pos (by omega), rdPg_at l i hi, if_pos hu, wrap_succ hi (big_of hl)]
    · obtain ⟨r, h1, h2⟩ := h (wrap64 (c + 1))
      refine ⟨r, Evn.step (fun k => ?_) h1, Evn.step (fun k => ?_) h2⟩
      · rw [spec_Gaps.l0, if_pos (by omega), if_pos (by omega), rdPg_at l i hi, if_neg hu, wrap_succ hi (big_of hl)]
      · rw [impl_Gaps.l0, if_pos (by omega), if_pos (by omega), if_pos (by omega), rdPg_at l i hi, if_neg hu, wrap_succ hi (big_of hl)]
  · refine ⟨c, Evn.step (fun k => ?_) (Evn.ret _), Evn.step (fun k => ?_) (Evn.ret _)⟩
    · rw [spec_Gaps.l0, if_neg (by omega)]
    · rw [impl_Gaps.l0, if_neg (by omega)]

end Go.Proofs.Ythenmlaleobapaa.Pure
