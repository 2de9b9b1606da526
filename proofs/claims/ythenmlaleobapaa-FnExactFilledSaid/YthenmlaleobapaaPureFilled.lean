/- Plain law of the printed Filled, the program's and the reference's. No condition. -/
import Derived.Test.YthenmlaleobapaaPureReach
import Derived.Test.YthenmlaleobapaaHReach
import Derived.Test.YthenmlaleobapaaAllx39
import Derived.Test.YthenmlaleobapaaAllx40
namespace Go.Proofs.Ythenmlaleobapaa.Pure
open Go.RowKit Go.Proofs.Ythenmlaleobapaa.All Go.Proofs.YthenmlaleobapaaW.PrintWords Go.Proofs.YthenmlaleobapaaW.PrintLast
set_option linter.unusedVariables false

theorem rdI (r : List Int) (x : Nat) (h : x < r.length) : rd r (x : Int) = r[x] := by
  show r.getD x 0 = _
  rw [List.getD_eq_getElem?_getD, List.getElem?_eq_getElem h]
  rfl
theorem filled_loop (a least : Int) (l : List Pg) (r : List Int) (ho : ∀ i ∈ r, pgOk l i) (hr : r.length ≤ 1048576) : ∀ d x : Nat, x + d = r.length → ∃ b : Bool, Evn (fun k => spec_Filled.l0 k least r (x : Int) a l) b ∧ Evn (fun k => impl_Filled.l0 k least r (r.length : Int) (x : Int) a l) b
  | 0, x, hx => ⟨true, Evn.step (fun k => by rw [spec_Filled.l0, if_neg (by omega)]) (Evn.ret _), Evn.step (fun k => by rw [impl_Filled.l0, if_neg (by omega)]) (Evn.ret _)⟩
  | d + 1, x, hx => by
    obtain ⟨b, h1, h2⟩ := filled_loop a least l r ho hr d (x + 1) (by omega)
    have hw : wrap64 ((x : Int) + 1) = ((x + 1 : Nat) : Int) := by
      unfold wrap64
      omega
    have hin : pgOk l (rd r (x : Int)) := by
      rw [rdI r x (by omega)]
      exact ho _ (List.getElem_mem _)
    obtain ⟨g0, g1, _⟩ := hin
    have s1 : ∀ k, spec_Filled.l0 (k + 1) least r (x : Int) a l = (if (rd r (x : Int)) = a then (if ((rd_T77 l (rd r (x : Int))).f1.f0 = true) then (spec_Filled.l0 k least r ((x + 1 : Nat) : Int) a l) else (if (((rd_T77 l (rd r (x : Int))).f1.f1).length : Int) < 2 then (some false) else (spec_Filled.l0 k least r ((x + 1 : Nat) : Int) a l))) else (if (((rd_T77 l (rd r (x : Int))).f1.f1).length : Int) < least then (some false) else (spec_Filled.l0 k least r ((x + 1 : Nat) : Int) a l))) := by
      intro k
      rw [spec_Filled.l0, if_pos (by omega), if_pos (by omega), if_pos g0, if_pos g1, hw]
    have s2 : ∀ k, impl_Filled.l0 (k + 1) least r (r.length : Int) (x : Int) a l = (if (rd r (x : Int)) = a then (if ((rd_T77 l (rd r (x : Int))).f1.f0 = true) then (impl_Filled.l0 k least r (r.length : Int) ((x + 1 : Nat) : Int) a l) else (if (((rd_T77 l (rd r (x : Int))).f1.f1).length : Int) < 2 then (some false) else (impl_Filled.l0 k least r (r.length : Int) ((x + 1 : Nat) : Int) a l))) else (if (((rd_T77 l (rd r (x : Int))).f1.f1).length : Int) < least then (some false) else (impl_Filled.l0 k least r (r.length : Int) ((x + 1 : Nat) : Int) a l))) := by
      intro k
      rw [impl_Filled.l0, if_pos (by omega), if_pos (by omega), if_pos (by omega), if_pos g0, if_pos g1, hw]
    by_cases c1 : rd r (x : Int) = a
    · by_cases c2 : (rd_T77 l (rd r (x : Int))).f1.f0 = true
      · exact ⟨b, Evn.step s1 (Evn.pos c1 (Evn.pos c2 h1)), Evn.step s2 (Evn.pos c1 (Evn.pos c2 h2))⟩
      · by_cases c3 : (((rd_T77 l (rd r (x : Int))).f1.f1).length : Int) < 2
        · exact ⟨false, Evn.step s1 (Evn.pos c1 (Evn.neg c2 (Evn.pos c3 (Evn.ret _)))), Evn.step s2 (Evn.pos c1 (Evn.neg c2 (Evn.pos c3 (Evn.ret _))))⟩
        · exact ⟨b, Evn.step s1 (Evn.pos c1 (Evn.neg c2 (Evn.neg c3 h1))), Evn.step s2 (Evn.pos c1 (Evn.neg c2 (Evn.neg c3 h2)))⟩
    · by_cases c3 : (((rd_T77 l (rd r (x : Int))).f1.f1).length : Int) < least
      · exact ⟨false, Evn.step s1 (Evn.neg c1 (Evn.pos c3 (Evn.ret _))), Evn.step s2 (Evn.neg c1 (Evn.pos c3 (Evn.ret _)))⟩
      · exact ⟨b, Evn.step s1 (Evn.neg c1 (Evn.neg c3 h1)), Evn.step s2 (Evn.neg c1 (Evn.neg c3 h2))⟩
theorem filled_both (a : Int) (l : List Pg) (least : Int) (hl : l.length ≤ 1048576) (hp : ∀ p ∈ l, p.f1.f1.length ≤ 1048576) : ∃ r : Bool, Evn (fun k => spec_Filled.f k a l least) r ∧ Evn (fun k => impl_Filled.f k a l least) r := by
  obtain ⟨r, hw, ho⟩ := reach_ends l hl hp a
  have hrl := ho.len
  obtain ⟨b, h1, h2⟩ := filled_loop a least l r ho.2 (by omega) r.length 0 (by omega)
  refine ⟨b, Evn.bind hw h1, Evn.bind (a := r) ?_ h2⟩
  unfold impl_Reach.f
  exact Evn.bind hw (Evn.ret _)

end Go.Proofs.Ythenmlaleobapaa.Pure
