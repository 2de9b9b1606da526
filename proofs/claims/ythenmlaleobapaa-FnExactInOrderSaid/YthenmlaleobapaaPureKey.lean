/- Plain laws of the printed curve and of the orders of items: the program's are the reference's. No condition. -/
import Derived.Test.YthenmlaleobapaaPureB0
import Derived.Test.YthenmlaleobapaaPureIn
import Derived.Test.YthenmlaleobapaaAllx6
import Derived.Test.YthenmlaleobapaaAllx19
namespace Go.Proofs.Ythenmlaleobapaa.Pure
open Go.RowKit Go.Proofs.Ythenmlaleobapaa.All Go.Proofs.YthenmlaleobapaaW.PrintWords Go.Proofs.YthenmlaleobapaaW.PrintLast
set_option linter.unusedVariables false

theorem along_same_loop : ∀ (k : Nat) (x y d s : Int), impl_Along.l0 k x y d s = spec_Along.l0 k x y d s
  | 0, _, _, _, _ => by rw [impl_Along.l0, spec_Along.l0]
  | k + 1, x, y, d, s => by
    rw [impl_Along.l0, spec_Along.l0]
    simp only [along_same_loop k]
theorem along_halves (s : Int) (hs : 0 < s) (h : ∀ x y d : Int, ∃ r : Int, Evn (fun k => spec_Along.l0 k x y d (wrap64 (Int.tdiv s 2))) r) (x y d : Int) : ∃ r : Int, Evn (fun k => spec_Along.l0 k x y d s) r := by
  by_cases h0 : Int.tmod (wrap64 (Int.tdiv y s)) 2 = 0
  · by_cases h1 : Int.tmod (wrap64 (Int.tdiv x s)) 2 = 1
    · obtain ⟨r, hr⟩ := h (wrap64 (255 - y)) (wrap64 (255 - x)) _
      exact ⟨r, Evn.step (fun k => by rw [spec_Along.l0, if_pos (by omega), if_neg (by omega), if_pos h0, if_pos h1]) hr⟩
    · obtain ⟨r, hr⟩ := h y x _
      exact ⟨r, Evn.step (fun k => by rw [spec_Along.l0, if_pos (by omega), if_neg (by omega), if_pos h0, if_neg h1]) hr⟩
  · obtain ⟨r, hr⟩ := h x y _
    exact ⟨r, Evn.step (fun k => by rw [spec_Along.l0, if_pos (by omega), if_neg (by omega), if_neg h0]) hr⟩
theorem along_ends (x y d : Int) : ∃ r : Int, Evn (fun k => spec_Along.l0 k x y d 128) r := by
  have z : ∀ x y d : Int, ∃ r : Int, Evn (fun k => spec_Along.l0 k x y d 0) r := fun x y d => ⟨d, Evn.step (fun k => by rw [spec_Along.l0, if_neg (by omega)]) (Evn.ret _)⟩
  have e (a b : Int) (h : Int.tdiv a 2 = b) (hb : 0 ≤ b ∧ b ≤ 128) : wrap64 (Int.tdiv a 2) = b := by rw [h]; exact wrap_small (by omega) (by omega)
  have h1 := along_halves 1 (by omega) (by rw [e 1 0 (by decide) (by omega)]; exact z)
  have h2 := along_halves 2 (by omega) (by rw [e 2 1 (by decide) (by omega)]; exact h1)
  have h4 := along_halves 4 (by omega) (by rw [e 4 2 (by decide) (by omega)]; exact h2)
  have h8 := along_halves 8 (by omega) (by rw [e 8 4 (by decide) (by omega)]; exact h4)
  have h16 := along_halves 16 (by omega) (by rw [e 16 8 (by decide) (by omega)]; exact h8)
  have h32 := along_halves 32 (by omega) (by rw [e 32 16 (by decide) (by omega)]; exact h16)
  have h64 := along_halves 64 (by omega) (by rw [e 64 32 (by decide) (by omega)]; exact h32)
  have h128 := along_halves 128 (by omega) (by rw [e 128 64 (by decide) (by omega)]; exact h64)
  exact h128 x y d
theorem spec_Along_ends (x y : Int) : ∃ r : Int, Evn (fun k => spec_Along.f k x y) r := by
  unfold spec_Along.f
  have hb : ∀ b : Bool, ∃ r : Int, Evn (fun k => spec_Along.j0 k x y b) r := by
    intro b
    cases b with
    | true => exact ⟨-1, Evn.step (fun k => by rw [spec_Along.j0, if_pos rfl]) (Evn.ret _)⟩
    | false =>
      obtain ⟨r, hr⟩ := along_ends x y 0
      exact ⟨r, Evn.step (fun k => by rw [spec_Along.j0, if_neg (by simp)]) hr⟩
  by_cases h : 0 ≤ x ∧ x ≤ 255
  · obtain ⟨r, hr⟩ := hb (!decide (0 ≤ y ∧ y ≤ 255))
    refine ⟨r, Evn.congr (fun k => ?_) hr⟩
    rw [spec_l1In_f, Option.bind_some, if_pos (decide_eq_true h), spec_l1In_f, Option.bind_some]
  · obtain ⟨r, hr⟩ := hb true
    refine ⟨r, Evn.congr (fun k => ?_) hr⟩
    rw [spec_l1In_f, Option.bind_some, if_neg (by simpa using h)]
theorem impl_Along_eq (k : Nat) (x y : Int) : impl_Along.f k x y = spec_Along.f k x y := by
  have hj : ∀ b, impl_Along.j0 k x y b = spec_Along.j0 k x y b := by
    intro b
    cases k with
    | zero => rw [impl_Along.j0, spec_Along.j0]
    | succ k => rw [impl_Along.j0, spec_Along.j0, along_same_loop]
  unfold impl_Along.f spec_Along.f
  rw [impl_in_f, spec_l1In_f, impl_in_f, spec_l1In_f]
  simp only [Option.bind_some, hj]
/-- The key of a box: its place on the curve. -/
theorem key_ends (a b c d : Int) : ∃ r : Int, Evn (fun k => spec_KeyOf.f k a b c d) r := by
  unfold spec_KeyOf.f spec_Middle.f
  obtain ⟨r, hr⟩ := spec_Along_ends (wrap64 (Int.tdiv (wrap64 (a + c)) 2)) (wrap64 (Int.tdiv (wrap64 (b + d)) 2))
  exact ⟨r, Evn.bind (Evn.ret _) (Evn.bind hr (Evn.ret _))⟩
noncomputable def keyB (b : Bx) : Int := (key_ends b.f0 b.f1 b.f2 b.f3).choose
theorem spec_KeyOf_f (b : Bx) : Evn (fun k => spec_KeyOf.f k b.f0 b.f1 b.f2 b.f3) (keyB b) := (key_ends b.f0 b.f1 b.f2 b.f3).choose_spec
theorem impl_KeyOf_f (b : Bx) : Evn (fun k => impl_KeyOf.f k b.f0 b.f1 b.f2 b.f3) (keyB b) := by
  refine Evn.congr (fun k => ?_) (spec_KeyOf_f b)
  unfold impl_KeyOf.f spec_KeyOf.f impl_Middle.f spec_Middle.f
  simp only [Option.bind_some, impl_Along_eq]
/-- Is x ahead of y. -/
noncomputable def aheadB (x y : It) : Bool := decide (keyB x.f1 < keyB y.f1 ∨ keyB x.f1 = keyB y.f1 ∧ x.f0 < y.f0)
theorem spec_Ahead_f (x y : It) : Evn (fun k => spec_Ahead.f k x.f0 x.f1.f0 x.f1.f1 x.f1.f2 x.f1.f3 y.f0 y.f1.f0 y.f1.f1 y.f1.f2 y.f1.f3) (aheadB x y) := by
  unfold spec_Ahead.f
  refine Evn.bind (spec_KeyOf_f x.f1) (Evn.bind (spec_KeyOf_f y.f1) ?_)
  unfold aheadB
  by_cases h0 : keyB x.f1 < keyB y.f1
  · refine Evn.pos h0 ?_
    rw [decide_eq_true (Or.inl h0)]
    exact Evn.ret _
  · refine Evn.neg h0 ?_
    by_cases h1 : keyB x.f1 = keyB y.f1
    · refine Evn.pos h1 ?_
      have e : decide (keyB x.f1 < keyB y.f1 ∨ keyB x.f1 = keyB y.f1 ∧ x.f0 < y.f0) = decide (x.f0 < y.f0) := by
        rw [decide_eq_decide]
        constructor
        · rintro (h | h)
          · exact absurd h h0
          · exact h.2
        · exact fun h => .inr ⟨h1, h⟩
      rw [e]
      exact Evn.ret _
    · refine Evn.neg h1 ?_
      rw [decide_eq_false (by rintro (h | h); exact h0 h; exact h1 h.1)]
      exact Evn.ret _
theorem compare_f (a b : Int) : cmp_Compare_int.f a b = some (if a < b then -1 else if a > b then 1 else 0) := by
  unfold cmp_Compare_int.f cmp_isNaN_int.f
  simp only [Option.bind_some, bne_self_eq_false, Bool.false_eq_true, if_false]
  split
  · rfl
  · split <;> rfl
theorem or_two (a b : Int) : Evn (fun k => cmp_Or_int.f k [a, b]) (if a = 0 then b else a) := by
  unfold cmp_Or_int.f
  have h0 : rd [a, b] 0 = a := rfl
  have h1 : rd [a, b] 1 = b := rfl
  have w01 : wrap64 (0 + 1) = 1 := wrap_small (by omega) (by omega)
  have w11 : wrap64 (1 + 1) = 2 := wrap_small (by omega) (by omega)
  by_cases ha : a = 0
  · rw [if_pos ha]
    refine Evn.step (g' := fun k => cmp_Or_int.l0 k 0 [a, b] 2 1) (fun k => ?_) ?_
    · rw [cmp_Or_int.l0, if_pos (by simp), if_pos (by omega), if_pos (by simp), h0, if_pos ha, w01]
      rfl
    · by_cases hb : b = 0
      · refine Evn.step (g' := fun k => cmp_Or_int.l0 k 0 [a, b] 2 2) (fun k => ?_) (Evn.step (fun k => ?_) (Evn.ret _))
        · rw [cmp_Or_int.l0, if_pos (by omega), if_pos (by omega), if_pos (by simp), h1, if_pos hb, w11]
        · rw [cmp_Or_int.l0, if_neg (by omega), hb]
      · refine Evn.step (fun k => ?_) (Evn.ret _)
        rw [cmp_Or_int.l0, if_pos (by omega), if_pos (by omega), if_pos (by simp), h1, if_neg hb]
  · rw [if_neg ha]
    refine Evn.step (fun k => ?_) (Evn.ret _)
    rw [cmp_Or_int.l0, if_pos (by simp), if_pos (by omega), if_pos (by simp), h0, if_neg ha]
/-- What the program's order of two items is. -/
noncomputable def orderN (x y : It) : Int := if aheadB x y = true then -1 else if aheadB y x = true then 1 else 0
theorem impl_order_f (x y : It) : Evn (fun k => impl_order.f k x.f0 x.f1.f0 x.f1.f1 x.f1.f2 x.f1.f3 y.f0 y.f1.f0 y.f1.f1 y.f1.f2 y.f1.f3) (orderN x y) := by
  unfold impl_order.f
  refine Evn.bind (impl_KeyOf_f x.f1) (Evn.bind (impl_KeyOf_f y.f1) ?_)
  rw [compare_f, compare_f]
  simp only [Option.bind_some]
  refine Evn.bind (or_two _ _) ?_
  have e : (if (if keyB x.f1 < keyB y.f1 then (-1 : Int) else if keyB x.f1 > keyB y.f1 then 1 else 0) = 0 then (if x.f0 < y.f0 then -1 else if x.f0 > y.f0 then 1 else 0) else (if keyB x.f1 < keyB y.f1 then -1 else if keyB x.f1 > keyB y.f1 then 1 else 0)) = orderN x y := by
    unfold orderN aheadB
    simp only [decide_eq_true_eq]
    rcases Int.lt_trichotomy (keyB x.f1) (keyB y.f1) with h | h | h
    · simp [h]
    · simp [h]
    · have h1 : ¬ keyB x.f1 < keyB y.f1 := by omega
      have h2 : ¬ keyB x.f1 = keyB y.f1 := by omega
      simp [h, h1, h2]
  rw [e]
  exact Evn.ret _
theorem impl_Ahead_f (x y : It) : Evn (fun k => impl_Ahead.f k x.f0 x.f1.f0 x.f1.f1 x.f1.f2 x.f1.f3 y.f0 y.f1.f0 y.f1.f1 y.f1.f2 y.f1.f3) (aheadB x y) := by
  unfold impl_Ahead.f
  refine Evn.bind (impl_order_f x y) ?_
  have e : decide (orderN x y < 0) = aheadB x y := by
    unfold orderN
    cases aheadB x y <;> cases aheadB y x <;> simp
  rw [e]
  exact Evn.ret _

end Go.Proofs.Ythenmlaleobapaa.Pure
