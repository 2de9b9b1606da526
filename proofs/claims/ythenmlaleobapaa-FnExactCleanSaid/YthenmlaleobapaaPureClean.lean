/- Plain law of the printed Clean, the program's and the reference's. No condition. -/
import Derived.Test.YthenmlaleobapaaPureReach
import Derived.Test.YthenmlaleobapaaHReach
import Derived.Test.YthenmlaleobapaaAllx34
import Derived.Test.YthenmlaleobapaaAllx37
namespace Go.Proofs.Ythenmlaleobapaa.Pure
open Go.RowKit Go.Proofs.Ythenmlaleobapaa.All Go.Proofs.YthenmlaleobapaaW.PrintWords Go.Proofs.YthenmlaleobapaaW.PrintLast
set_option linter.unusedVariables false

theorem Evn.of_mono {α : Type} {g : Nat → Option α} {r : α} {k : Nat} (h : g k = some r) (hm : ∀ k, LeO (g k) (g (k + 1))) : Evn g r := by
  refine ⟨k, fun m hk => ?_⟩
  obtain ⟨d, rfl⟩ : ∃ d, m = k + d := ⟨m - k, by omega⟩
  induction d with
  | zero => exact h
  | succ d ih => exact hm (k + d) r (ih (by omega))
theorem has_evn (l : List Int) (n : Int) (hl : l.length ≤ 1048576) : Evn (fun k => spec_l7Has.f k l n) (decide (n ∈ l)) := by
  obtain ⟨k, hk⟩ := has_f l n (by omega)
  exact Evn.of_mono hk (fun k => spec_l7Has.mono _ _ _)
def usedL (l : List Pg) (n : Nat) : List Int := (upto n).filter fun i => (rd_T77 l i).f0
theorem upto_nodup (n : Nat) : (upto n).Nodup := by
  unfold upto List.Nodup
  rw [List.pairwise_map]
  exact List.nodup_range.imp (fun h e => h (by omega))
theorem upto_succ (n : Nat) : upto (n + 1) = upto n ++ [(n : Int)] := by
  unfold upto
  rw [List.range_succ, List.map_append]
  rfl
theorem usedL_succ (l : List Pg) (n : Nat) : usedL l (n + 1) = usedL l n ++ (if (rd_T77 l (n : Int)).f0 = true then [(n : Int)] else []) := by
  unfold usedL
  rw [upto_succ, List.filter_append]
  congr 1
  by_cases h : (rd_T77 l (n : Int)).f0 = true
  · rw [if_pos h]
    simp [h]
  · rw [if_neg h]
    simp [h]
theorem mem_usedL {l : List Pg} {x : Int} : x ∈ usedL l l.length ↔ pgOk l x := by
  unfold usedL pgOk
  rw [List.mem_filter, mem_upto]
  constructor
  · rintro ⟨⟨h1, h2⟩, h3⟩
    exact ⟨h1, h2, h3⟩
  · rintro ⟨h1, h2, h3⟩
    exact ⟨⟨h1, h2⟩, h3⟩
theorem usedL_le (l : List Pg) (n : Nat) : (usedL l n).length ≤ n := by
  have := List.length_filter_le (fun i => (rd_T77 l i).f0) (upto n)
  rw [upto_len] at this
  exact this

theorem spec_clean_loop (a : Int) (l : List Pg) (r : List Int) (hl : l.length ≤ 1048576) (hr : r.length ≤ 1048576) : ∀ d x : Nat, x + d = l.length → ∃ b, Evn (fun k => spec_Clean.l0 k r (x : Int) a l) b ∧ (b = true ↔ ∀ i : Nat, x ≤ i → i < l.length → (rd_T77 l (i : Int)).f0 = true → (i : Int) ∈ r)
  | 0, x, hx => ⟨true, Evn.step (fun k => by rw [spec_Clean.l0, if_neg (by omega)]) (Evn.ret _), by simp; intro i h1 h2; omega⟩
  | d + 1, x, hx => by
    obtain ⟨b, h1, h2⟩ := spec_clean_loop a l r hl hr d (x + 1) (by omega)
    have hw : wrap64 ((x : Int) + 1) = ((x + 1 : Nat) : Int) := by
      unfold wrap64
      omega
    have hnext : ∀ i : Nat, x ≤ i → ¬ x + 1 ≤ i → i = x := fun i h1 h2 => by omega
    by_cases hu : (rd_T77 l (x : Int)).f0 = true
    · have s1 : ∀ k, spec_Clean.l0 (k + 1) r (x : Int) a l = (spec_l7Has.f k r (x : Int)).bind fun t => (if t = true then spec_Clean.l0 k r ((x + 1 : Nat) : Int) a l else some false) := by
        intro k
        rw [spec_Clean.l0, if_pos (by omega), if_pos (by omega), if_pos hu, hw]
      by_cases hin : (x : Int) ∈ r
      · refine ⟨b, Evn.step s1 (Evn.bind (has_evn r x hr) (Evn.pos (c := decide ((x : Int) ∈ r) = true) (decide_eq_true hin) h1)), ?_⟩
        rw [h2]
        constructor
        · intro h i h3 h4 h5
          by_cases h6 : x + 1 ≤ i
          · exact h i h6 h4 h5
          · rw [hnext i h3 h6]
            exact hin
        · intro h i h3 h4 h5
          exact h i (by omega) h4 h5
      · refine ⟨false, Evn.step s1 (Evn.bind (has_evn r x hr) (Evn.neg (c := decide ((x : Int) ∈ r) = true) (by simpa using hin) (Evn.ret _))), ?_⟩
        constructor
        · intro h
          cases h
        · intro h
          exact absurd (h x (Nat.le_refl _) (by omega) hu) hin
    · refine ⟨b, Evn.step (fun k => by rw [spec_Clean.l0, if_pos (by omega), if_pos (by omega), if_neg hu, hw]) h1, ?_⟩
      rw [h2]
      constructor
      · intro h i h3 h4 h5
        by_cases h6 : x + 1 ≤ i
        · exact h i h6 h4 h5
        · rw [hnext i h3 h6] at h5
          exact absurd h5 hu
      · intro h i h3 h4 h5
        exact h i (by omega) h4 h5
theorem impl_clean_loop (a : Int) (l : List Pg) (r : List Int) (hw : Evn (fun k => walkM k l a []) r) (hl : l.length ≤ 1048576) : ∀ d x : Nat, x + d = l.length → Evn (fun k => impl_Clean.l0 k ((usedL l x).length : Int) l (l.length : Int) (x : Int) a l) (((usedL l l.length).length : Int) == (r.length : Int))
  | 0, x, hx => by
    obtain rfl : x = l.length := by omega
    refine Evn.step (fun k => by rw [impl_Clean.l0, if_neg (by omega)]) ?_
    refine Evn.bind (a := r) ?_ (Evn.ret _)
    unfold impl_Reach.f
    exact Evn.bind hw (Evn.ret _)
  | d + 1, x, hx => by
    have h1 := impl_clean_loop a l r hw hl d (x + 1) (by omega)
    have hw1 : wrap64 ((x : Int) + 1) = ((x + 1 : Nat) : Int) := by
      unfold wrap64
      omega
    rw [usedL_succ] at h1
    by_cases hu : (rd_T77 l (x : Int)).f0 = true
    · rw [if_pos hu, List.length_append, List.length_singleton] at h1
      have h3 := usedL_le l x
      have hw2 : wrap64 (((usedL l x).length : Int) + 1) = (((usedL l x).length + 1 : Nat) : Int) := by
        unfold wrap64
        omega
      exact Evn.step (fun k => by rw [impl_Clean.l0, if_pos (by omega), if_pos (by omega), if_pos (by omega), if_pos hu, hw1, hw2]) h1
    · rw [if_neg hu, List.append_nil] at h1
      exact Evn.step (fun k => by rw [impl_Clean.l0, if_pos (by omega), if_pos (by omega), if_pos (by omega), if_neg hu, hw1]) h1
theorem clean_both (a : Int) (l : List Pg) (hl : l.length ≤ 1048576) (hp : ∀ p ∈ l, p.f1.f1.length ≤ 1048576) : ∃ r : Bool, Evn (fun k => spec_Clean.f k a l) r ∧ Evn (fun k => impl_Clean.f k a l) r := by
  obtain ⟨r, hw, ho⟩ := reach_ends l hl hp a
  have hrl := ho.len
  obtain ⟨b, h1, h2⟩ := spec_clean_loop a l r hl (by omega) l.length 0 (by omega)
  have h3 := impl_clean_loop a l r hw hl l.length 0 (by omega)
  have hb : (((usedL l l.length).length : Int) == (r.length : Int)) = b := by
    have hsub : ∀ x ∈ r, x ∈ usedL l l.length := fun x hx => mem_usedL.2 (ho.2 x hx)
    have hle := nodup_sub r _ ho.1 hsub
    rw [Bool.eq_iff_iff, h2, beq_iff_eq]
    constructor
    · intro he i _ hi hu
      exact nodup_full r _ ho.1 hsub (by omega) _ (mem_usedL.2 ⟨by omega, by omega, hu⟩)
    · intro h
      have := nodup_sub (usedL l l.length) r ((upto_nodup _).filter _) (fun x hx => by
        have hx2 := mem_usedL.1 hx
        have := h x.toNat (Nat.zero_le _) (by have := hx2.1; have := hx2.2.1; omega)
        rw [Int.toNat_of_nonneg hx2.1] at this
        exact this hx2.2.2)
      omega
  refine ⟨b, ?_, ?_⟩
  · exact Evn.bind hw h1
  · rw [← hb]
    exact h3

end Go.Proofs.Ythenmlaleobapaa.Pure
