/- Plain law of the printed depth, the program's and the reference's. No condition. -/
import Derived.Test.YthenmlaleobapaaPureBook
import Derived.Test.YthenmlaleobapaaPureIn
import Derived.Test.YthenmlaleobapaaAllx51
import Derived.Test.YthenmlaleobapaaAllx54
namespace Go.Proofs.Ythenmlaleobapaa.Pure
open Go.RowKit Go.Proofs.Ythenmlaleobapaa.All Go.Proofs.YthenmlaleobapaaW.PrintWords Go.Proofs.YthenmlaleobapaaW.PrintLast
set_option linter.unusedVariables false

/-- Is page i there, and used. -/
def usedB (l : List Pg) (i : Int) : Bool := decide (0 ≤ i ∧ i < l.length) && (rd_T77 l i).f0
theorem impl_used_f (a : Int) (l : List Pg) (i : Int) : impl_used.f a l i = some (usedB l i) := by
  unfold impl_used.f impl_exists.f usedB
  by_cases h0 : i ≥ 0
  · rw [if_pos h0]
    simp only [Option.bind_some]
    by_cases h1 : i < l.length
    · simp only [h1, decide_true, if_true]
      rw [if_pos (by omega)]
      simp [show (0 : Int) ≤ i from h0]
    · simp [h1]
  · rw [if_neg h0]
    simp [h0]
theorem spec_in_len (l : List Pg) (hl : l.length ≤ 1048576) (i : Int) : spec_l1In.f i 0 (wrap64 ((l.length : Int) - 1)) = some (decide (0 ≤ i ∧ i < l.length)) := by
  rw [spec_l1In_f, wrap_small (by omega) (by omega)]
  congr 1
  simp only [decide_eq_decide]
  omega

theorem deep_both (a : Int) (l : List Pg) (hl : l.length ≤ 1048576) (hp : ∀ p ∈ l, p.f1.f1.length ≤ 1048576) : ∃ r : Int, Evn (fun k => spec_Deep.f k a l) r ∧ Evn (fun k => impl_Deep.f k a l) r := by
  unfold spec_Deep.f impl_Deep.f
  refine down (P := fun n => ∀ i : Int, ∃ r : Int, Evn (fun k => spec_Deep.l0 k i (n : Int) a l) r ∧ Evn (fun k => impl_Deep.l0 k (n : Int) i a l) r) 12 (fun n hn h i => ?_) (fun i => ?_) a
  · have hw : wrap64 ((n : Int) + 1) = ((n + 1 : Nat) : Int) := wrap_succ hn (by unfold big; omega)
    have hout : usedB l i = false → ∃ r : Int, Evn (fun k => spec_Deep.l0 k i (n : Int) a l) r ∧ Evn (fun k => impl_Deep.l0 k (n : Int) i a l) r := by
      intro hu
      refine ⟨n, ?_, ?_⟩
      · refine Evn.step (g' := fun k => spec_Deep.j1 k i (n : Int) true a l) (fun k => ?_) (Evn.step (fun k => by rw [spec_Deep.j1, if_pos rfl]) (Evn.ret _))
        rw [spec_Deep.l0, if_pos (by omega), spec_in_len l hl, Option.bind_some]
        by_cases hi : 0 ≤ i ∧ i < l.length
        · have hf : (rd_T77 l i).f0 = false := by
            unfold usedB at hu
            rw [decide_eq_true hi] at hu
            simpa using hu
          rw [if_pos (decide_eq_true hi), if_pos hi.1, if_pos hi.2, hf]
          rfl
        · rw [if_neg (by simpa using hi)]
      · refine Evn.step (g' := fun k => impl_Deep.j1 k (n : Int) i false a l) (fun k => ?_) (Evn.step (fun k => by rw [impl_Deep.j1, if_neg (by simp)]) (Evn.ret _))
        rw [impl_Deep.l0, if_pos (by omega), impl_used_f, Option.bind_some, hu]
    cases hu : usedB l i with
    | false => exact hout hu
    | true =>
      have hi : 0 ≤ i ∧ i < l.length := by
        unfold usedB at hu
        simp only [Bool.and_eq_true, decide_eq_true_eq] at hu
        exact hu.1
      have hf : (rd_T77 l i).f0 = true := by
        unfold usedB at hu
        simp only [Bool.and_eq_true] at hu
        exact hu.2
      have s1 : ∀ k, spec_Deep.l0 (k + 1) i (n : Int) a l = spec_Deep.j1 k i (n : Int) false a l := by
        intro k
        rw [spec_Deep.l0, if_pos (by omega), spec_in_len l hl, Option.bind_some, if_pos (decide_eq_true hi), if_pos hi.1, if_pos hi.2, hf]
        rfl
      have s2 : ∀ k, impl_Deep.l0 (k + 1) (n : Int) i a l = impl_Deep.j1 k (n : Int) i true a l := by
        intro k
        rw [impl_Deep.l0, if_pos (by omega), impl_used_f, Option.bind_some, hu]
      by_cases hlf : (rd_T77 l i).f1.f0 = true
      · refine ⟨wrap64 ((n : Int) + 1), Evn.step s1 (Evn.step (fun k => ?_) (Evn.ret _)), Evn.step s2 (Evn.step (fun k => ?_) (Evn.ret _))⟩
        · rw [spec_Deep.j1, if_neg (by simp), if_pos hi.1, if_pos hi.2, if_pos hlf]
        · rw [impl_Deep.j1, if_pos rfl, if_pos hi.1, if_pos hi.2, if_pos hlf]
      · by_cases hz : ((rd_T77 l i).f1.f1.length : Int) = 0
        · refine ⟨wrap64 ((n : Int) + 1), Evn.step s1 (Evn.step (fun k => ?_) (Evn.ret _)), Evn.step s2 (Evn.step (fun k => ?_) (Evn.ret _))⟩
          · rw [spec_Deep.j1, if_neg (by simp), if_pos hi.1, if_pos hi.2, if_neg hlf, if_pos hz]
          · rw [impl_Deep.j1, if_pos rfl, if_pos hi.1, if_pos hi.2, if_neg hlf, if_pos hz]
        · obtain ⟨r, h1, h2⟩ := h (rd_T82 (rd_T77 l i).f1.f1 0).f0
          refine ⟨r, Evn.step s1 (Evn.step (fun k => ?_) h1), Evn.step s2 (Evn.step (fun k => ?_) h2)⟩
          · rw [spec_Deep.j1, if_neg (by simp), if_pos hi.1, if_pos hi.2, if_neg hlf, if_neg hz, if_pos (by omega), hw]
          · rw [impl_Deep.j1, if_pos rfl, if_pos hi.1, if_pos hi.2, if_neg hlf, if_neg hz, if_pos (by omega), hw]
  · refine ⟨12, Evn.step (fun k => ?_) (Evn.ret _), Evn.step (g' := fun k => impl_Deep.j1 k 12 i false a l) (fun k => ?_) (Evn.step (fun k => by rw [impl_Deep.j1, if_neg (by simp)]) (Evn.ret _))⟩
    · rw [spec_Deep.l0, if_neg (by omega)]
    · rw [impl_Deep.l0, if_neg (by omega)]
      rfl

end Go.Proofs.Ythenmlaleobapaa.Pure
