/- The program's NextOf returns what the reference's returns, for all arguments. No condition. -/
import Derived.Test.YtdfdahoceohcjaaPureNext
import Derived.Test.YtdfdahoceohcjaaArgs
import Derived.Test.YtdfdahoceohcjaaAllx49
namespace Go.Proofs.Ytdfdahoceohcjaa.Pure
open Go.RowKit Go.Proofs.Ytdfdahoceohcjaa.All Go.Proofs.Ytdfdahoceohcjaa.Op
set_option linter.unusedVariables false

theorem FnExactNextOf (y0 : List LEn) (y1 y2 : LBx) (hg0 : good32 y0) (hg1 : good25 y1) (hg2 : good25 y2) : ∃ k, laws_FnExactNextOf.f k y0 y1.f0 y1.f1 y1.f2 y1.f3 y2.f0 y2.f1 y2.f2 y2.f3 = some true := by
  apply Evn.some_k
  unfold laws_FnExactNextOf.f
  rw [szEntryS_f _ _ (by omega) hg0.1]
  simp only [Option.bind_some]
  by_cases h : (1048576 : Int) < y0.length
  · rw [if_pos h]
    exact Evn.ret _
  · rw [if_neg h]
    refine Evn.neg (by omega) ?_
    have hl : y0.length ≤ 1048576 := by omega
    have hm : (y0.map toE).length ≤ big := by rw [List.length_map]; unfold big; omega
    obtain ⟨r, h1, h2⟩ : ∃ r : Int, Evn (fun q => spec_NextOf.f q (y0.map toE) (toB y1).f0 (toB y1).f1 (toB y1).f2 (toB y1).f3 (toB y2).f0 (toB y2).f1 (toB y2).f2 (toB y2).f3) r ∧ Evn (fun q => impl_NextOf.f q (y0.map toE) (toB y1).f0 (toB y1).f1 (toB y1).f2 (toB y1).f3 (toB y2).f0 (toB y2).f1 (toB y2).f2 (toB y2).f3) r := by
      cases hc : y0.map toE with
      | nil => exact ⟨_, nextOf_none _ _⟩
      | cons e t => exact ⟨_, nextOf_some (e :: t) (toB y1) (toB y2) (by rw [← hc]; exact hm) t.length rfl⟩
    refine Evn.bind (toEntryS_f y0 hl) (Evn.bind (Evn.ret _) (Evn.bind (Evn.ret _) (Evn.bind h1 (Evn.bind (toEntryS_f y0 hl) (Evn.bind (Evn.ret _) (Evn.bind (Evn.ret _) (Evn.bind h2 (Evn.pos rfl ?_))))))))
    exact Evn.bind (toEntryS_f y0 hl) (Evn.bind (eqEntryS_same _ hm) (Evn.ret _))

end Go.Proofs.Ytdfdahoceohcjaa.Pure
