/- The program's Seeds returns what the reference's returns, for all arguments. No condition. -/
import Derived.Test.YtdfdahoceohcjaaPureSeeds
import Derived.Test.YtdfdahoceohcjaaArgs
import Derived.Test.YtdfdahoceohcjaaAllx42
namespace Go.Proofs.Ytdfdahoceohcjaa.Pure
open Go.RowKit Go.Proofs.Ytdfdahoceohcjaa.All Go.Proofs.Ytdfdahoceohcjaa.Op
set_option linter.unusedVariables false

theorem FnExactSeeds (y0 : List LEn) (hg0 : good32 y0) : ∃ k, laws_FnExactSeeds.f k y0 = some true := by
  apply Evn.some_k
  unfold laws_FnExactSeeds.f
  rw [szEntryS_f _ _ (by omega) hg0.1]
  simp only [Option.bind_some]
  by_cases h : (1048576 : Int) < y0.length
  · rw [if_pos h]
    exact Evn.ret _
  · rw [if_neg h]
    refine Evn.neg (by omega) ?_
    have hl : y0.length ≤ 1048576 := by omega
    have hm : (y0.map toE).length ≤ big := by rw [List.length_map]; unfold big; omega
    obtain ⟨r, h1, h2⟩ : ∃ r : Int × Int, Evn (fun q => spec_Seeds.f q (y0.map toE)) r ∧ Evn (fun q => impl_Seeds.f q (y0.map toE)) r := by
      by_cases h2 : (y0.map toE).length < 2
      · exact ⟨_, seeds_few _ h2⟩
      · obtain ⟨r, _, _, h3, h4⟩ := seeds_many (y0.map toE) hm (by omega)
        exact ⟨_, h3, h4⟩
    refine Evn.bind (toEntryS_f y0 hl) (Evn.bind h1 (Evn.bind (toEntryS_f y0 hl) (Evn.bind h2 ?_)))
    refine Evn.pos rfl ?_
    have e : (r.2 != r.2) = false := by simp
    rw [e]
    refine Evn.step (g' := fun q => (laws_toEntryS.f q y0).bind fun t => (laws_eqEntryS.f q (y0.map toE) t).bind fun t => if t = true then some true else some false) (fun q => ?_) ?_
    · rw [laws_FnExactSeeds.j0]
      rfl
    · exact Evn.bind (toEntryS_f y0 hl) (Evn.bind (eqEntryS_same _ hm) (Evn.ret _))

end Go.Proofs.Ytdfdahoceohcjaa.Pure
