/- Plain law of the printed rows of entries, the program's and the reference's. No condition. -/
import Derived.Test.YthenmlaleobapaaPureB0
import Derived.Test.YthenmlaleobapaaAllx3
import Derived.Test.YthenmlaleobapaaAllx8
namespace Go.Proofs.Ythenmlaleobapaa.Pure
open Go.RowKit Go.Proofs.Ythenmlaleobapaa.All Go.Proofs.YthenmlaleobapaaW.PrintWords Go.Proofs.YthenmlaleobapaaW.PrintLast
set_option linter.unusedVariables false

theorem mid_len (l : List En) (i t : Nat) (ht : t ≤ l.length) : ((l.take t).drop i).length = t - i := by rw [List.length_drop, List.length_take]; omega
theorem rows_loop (l : List En) (hl : l.length ≤ 1048576) : ∀ (d i : Nat) (acc : List (List En)), l.length ≤ i + d → i ≤ l.length + 4 → acc.length ≤ i → (∀ p ∈ acc, p.length ≤ 4) →
    ∃ R, Evn (fun k => spec_Rows.l0 k l acc (i : Int)) R ∧ Evn (fun k => impl_Rows.l0 k l acc (i : Int)) R ∧ R.length ≤ l.length + 4 ∧ ∀ p ∈ R, p.length ≤ 4
  | 0, i, acc, hd, hi, ha, hp => ⟨acc, Evn.step (fun k => by rw [spec_Rows.l0, if_neg (by omega)]) (Evn.ret _), Evn.step (fun k => by rw [impl_Rows.l0, if_neg (by omega)]) (Evn.ret _), by omega, hp⟩
  | d + 1, i, acc, hd, hi, ha, hp => by
    by_cases h : i < l.length
    · obtain ⟨t, ht⟩ : ∃ t : Nat, t = min (i + 4) l.length := ⟨_, rfl⟩
      have hlen := mid_len l i t (by omega)
      obtain ⟨R, h1, h2, h3, h4⟩ := rows_loop l hl d (i + 4) (acc ++ [(l.take t).drop i]) (by omega) (by omega) (by rw [List.length_append, List.length_singleton]; omega) (fun p hq => by
        rcases List.mem_append.1 hq with hq | hq
        · exact hp p hq
        · rw [List.mem_singleton] at hq
          rw [hq, hlen]
          omega)
      have hw : wrap64 ((i : Int) + 4) = ((i + 4 : Nat) : Int) := by
        rw [wrap_small (by omega) (by omega)]
        omega
      have hL : spec_Least.f (l.length : Int) ((i + 4 : Nat) : Int) = some (t : Int) := by
        unfold spec_Least.f
        split
        · congr 1
          omega
        · congr 1
          omega
      have hmn : mn ((i + 4 : Nat) : Int) (l.length : Int) = (t : Int) := by
        unfold mn
        omega
      refine ⟨R, Evn.step (fun k => ?_) h1, Evn.step (fun k => ?_) h2, h3, h4⟩
      · rw [spec_Rows.l0, if_pos (by omega), hw, hL]
        simp only [Option.bind_some]
        rw [if_pos (by omega), if_pos (by omega), if_pos (by omega), if_pos (by rw [Int.toNat_natCast, Int.toNat_natCast, hlen]; simp; omega), if_pos (by omega)]
        rw [Int.toNat_natCast, Int.toNat_natCast, List.nil_append]
      · rw [impl_Rows.l0, if_pos (by omega), if_pos (by omega), hw, hmn, if_pos (by omega), if_pos (by omega)]
        rw [Int.toNat_natCast, Int.toNat_natCast]
        unfold slices_Clone_Entry.f
        rw [if_pos (by rw [hlen]; omega)]
        simp only [Option.bind_some]
        rw [if_pos (by omega)]
    · exact ⟨acc, Evn.step (fun k => by rw [spec_Rows.l0, if_neg (by omega)]) (Evn.ret _), Evn.step (fun k => by rw [impl_Rows.l0, if_neg (by omega)]) (Evn.ret _), by omega, hp⟩
theorem rows_both (l : List En) (hl : l.length ≤ 1048576) : ∃ R, Evn (fun k => spec_Rows.f k l) R ∧ Evn (fun k => impl_Rows.f k l) R ∧ R.length ≤ l.length + 4 ∧ ∀ p ∈ R, p.length ≤ 4 :=
  rows_loop l hl l.length 0 [] (by omega) (by omega) (by simp) (fun _ h => absurd h List.not_mem_nil)

end Go.Proofs.Ythenmlaleobapaa.Pure
