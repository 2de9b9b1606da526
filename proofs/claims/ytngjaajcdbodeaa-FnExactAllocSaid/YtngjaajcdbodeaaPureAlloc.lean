/- Plain law of the printed Alloc, the program's and the reference's. No condition. -/
import Derived.Test.YtngjaajcdbodeaaPureCopy
import Derived.Test.YtngjaajcdbodeaaPureHeldBook
import Derived.Test.YtngjaajcdbodeaaAllx64
import Derived.Test.YtngjaajcdbodeaaAllx66
namespace Go.Proofs.Ytngjaajcdbodeaa.Pure
open Go.RowKit Go.Proofs.Ytngjaajcdbodeaa.All Go.Proofs.YtngjaajcdbodeaaW.PrintWords Go.Proofs.YtngjaajcdbodeaaW.PrintLast
set_option linter.unusedVariables false

def newPg : Pg := ⟨true, ⟨true, []⟩⟩
def allocEnd (a : Int) (l : List Pg) : Int × List Pg × Int := if (l.length : Int) ≥ 48 then (a, l, -1) else (a, l ++ [newPg], l.length)
theorem alloc_scan (a : Int) (l : List Pg) (hl : l.length ≤ 1048576) : ∀ d x : Nat, x + d = l.length → ∃ n : Int, Evn (fun k => impl_FirstFree.l0 k l (l.length : Int) (x : Int)) n ∧
    (n = -1 ∧ Evn (fun k => spec_Alloc.l0 k (x : Int) a l a l) (allocEnd a l) ∨ 0 ≤ n ∧ n < l.length ∧ Evn (fun k => spec_Alloc.l0 k (x : Int) a l a l) (a, l.set n.toNat newPg, n))
  | 0, x, hx => by
    refine ⟨-1, Evn.step (fun k => by rw [impl_FirstFree.l0, if_neg (by omega)]) (Evn.ret _), .inl ⟨rfl, ?_⟩⟩
    unfold allocEnd
    by_cases h : (l.length : Int) ≥ 48
    · rw [if_pos h]
      exact Evn.step (fun k => by rw [spec_Alloc.l0, if_neg (by omega), if_pos h]) (Evn.ret _)
    · rw [if_neg h]
      exact Evn.step (fun k => by rw [spec_Alloc.l0, if_neg (by omega), if_neg h, if_pos (by omega)]; rfl) (Evn.ret _)
  | d + 1, x, hx => by
    have hxl : x < l.length := by omega
    by_cases hu : (l[x]).f0 = true
    · obtain ⟨n, h1, h2⟩ := alloc_scan a l hl d (x + 1) (by omega)
      have e1 : ∀ k, impl_FirstFree.l0 (k + 1) l (l.length : Int) (x : Int) = impl_FirstFree.l0 k l (l.length : Int) ((x + 1 : Nat) : Int) := fun k => by
        rw [impl_FirstFree.l0, if_pos (by omega), if_pos (by omega), if_pos (by omega), rdPg_at l x hxl, if_pos hu, wrap_succ hxl (big_of hl)]
      have e2 : ∀ k, spec_Alloc.l0 (k + 1) (x : Int) a l a l = spec_Alloc.l0 k ((x + 1 : Nat) : Int) a l a l := fun k => by
        rw [spec_Alloc.l0, if_pos (by omega), if_pos (by omega), rdPg_at l x hxl, if_pos hu, wrap_succ hxl (big_of hl)]
      refine ⟨n, Evn.step e1 h1, ?_⟩
      rcases h2 with ⟨hn, h2⟩ | ⟨h3, h4, h2⟩
      · exact .inl ⟨hn, Evn.step e2 h2⟩
      · exact .inr ⟨h3, h4, Evn.step e2 h2⟩
    · refine ⟨x, Evn.step (fun k => by rw [impl_FirstFree.l0, if_pos (by omega), if_pos (by omega), if_pos (by omega), rdPg_at l x hxl, if_neg hu]) (Evn.ret _), .inr ⟨by omega, by omega, ?_⟩⟩
      exact Evn.step (fun k => by rw [spec_Alloc.l0, if_pos (by omega), if_pos (by omega), rdPg_at l x hxl, if_neg hu, if_pos (by omega)]; rfl) (Evn.ret _)
theorem fair_set (l : List Pg) (h : Fair l) (n : Nat) (p : Pg) (hp : p.f1.f1.length ≤ 2097152) : Fair (l.set n p) := by
  refine ⟨by rw [List.length_set]; exact h.len, fun q hq => ?_⟩
  rcases List.mem_or_eq_of_mem_set hq with hq | hq
  · exact h.ent q hq
  · rw [hq]
    exact hp
theorem alloc_both (a : Int) (l : List Pg) (hl : l.length ≤ 1048576) (hp : ∀ p ∈ l, p.f1.f1.length ≤ 1048576) : ∃ (q : List Pg) (n : Int), Fair q ∧ Evn (fun k => spec_Alloc.f k a l) (a, q, n) ∧ Evn (fun k => impl_Alloc.f k a l) (a, q, n) := by
  have hs := spec_l7Copy_f a l hl hp
  have hi := impl_copyBook_f a l hl hp
  have hF := Fair.of hl hp
  obtain ⟨n, h1, h2⟩ := alloc_scan a l hl l.length 0 (by omega)
  have h3 : Evn (fun k => impl_FirstFree.f k a l) n := h1
  rcases h2 with ⟨rfl, h2⟩ | ⟨h4, h5, h2⟩
  · unfold allocEnd at h2
    by_cases h : (l.length : Int) ≥ 48
    · rw [if_pos h] at h2
      exact ⟨l, -1, hF, Evn.bind hs h2, Evn.bind hi (Evn.bind h3 (Evn.pos (by decide) (Evn.pos h (Evn.ret _))))⟩
    · rw [if_neg h] at h2
      refine ⟨l ++ [newPg], l.length, ⟨by rw [List.length_append, List.length_singleton]; omega, fun p hq => ?_⟩, Evn.bind hs h2, Evn.bind hi (Evn.bind h3 (Evn.pos (by decide) (Evn.neg h (Evn.pos (by simp only []; omega) ?_))))⟩
      · rcases List.mem_append.1 hq with hq | hq
        · exact hF.ent p hq
        · rw [List.mem_singleton.1 hq]
          decide
      · have e : (l ++ [(⟨false, ⟨false, []⟩⟩ : Pg)]).set l.length newPg = l ++ [newPg] := by
          rw [List.set_append, if_neg (by omega), Nat.sub_self, List.set_cons_zero]
        refine Evn.const fun k => ?_
        simp only [Option.bind_some]
        rw [if_pos (by omega), if_pos (by rw [List.length_append, List.length_singleton]; omega), Int.toNat_natCast]
        exact congrArg (fun z => some (a, z, (l.length : Int))) e
  · refine ⟨l.set n.toNat newPg, n, fair_set l hF _ _ (by decide), Evn.bind hs h2, Evn.bind hi (Evn.bind h3 (Evn.neg (by omega) (Evn.pos h4 (Evn.pos h5 (Evn.ret _)))))⟩

end Go.Proofs.Ytngjaajcdbodeaa.Pure
