/- The texts on which the row FnExactAll rests, part 4: contracts of the functions that it reaches and plain laws of what they compute. No condition. -/
import Derived.Test.YthenmlaleobapaaMgFnExactAll1
import Derived.Test.YthenmlaleobapaaMgFnExactAll2
import Derived.Test.YthenmlaleobapaaMgFnExactAll3
namespace Go.Proofs.Ythenmlaleobapaa.All
open Go.RowKit Go.Proofs.YthenmlaleobapaaW.PrintWords Go.Proofs.YthenmlaleobapaaW.PrintLast Go.Proofs.YthenmlaleobapaaW.PrintMore
attribute [local go_sem] max2_int min2_int max_two min_two max_three min_three max_four min_four   -- for this text's walks alone
set_option linter.unusedVariables false
set_option linter.unusedSimpArgs false

/-! ### laws_heldEntryS: function 72 -/
def laws_heldEntryS.l0 : Nat → List (S82) → Int → Int → Option (Int)
  | 0, _, _, _ => none
  | k + 1, x0, x1, x5 => if x5 < (x0.length : Int) then (if 0 ≤ x5 then (if ((rd_T82 x0 x5).f0) = x1 then (if ((rd_T82 x0 x5).f1.f0) = (wrap64 (x1 + 1)) then (if ((rd_T82 x0 x5).f1.f1) = (wrap64 ((wrap64 (x1 + 1)) + 1)) then (if ((rd_T82 x0 x5).f1.f2) = (wrap64 ((wrap64 ((wrap64 (x1 + 1)) + 1)) + 1)) then (if ((rd_T82 x0 x5).f1.f3) = (wrap64 ((wrap64 ((wrap64 ((wrap64 (x1 + 1)) + 1)) + 1)) + 1)) then (laws_heldEntryS.l0 k x0 (wrap64 ((wrap64 ((wrap64 ((wrap64 ((wrap64 (x1 + 1)) + 1)) + 1)) + 1)) + 1)) (wrap64 (x5 + 1))) else (some (-1))) else (some (-1))) else (some (-1))) else (some (-1))) else (some (-1))) else (none)) else (some x1)
def laws_heldEntryS.f (k : Nat) (l0 : List (S82)) (a1 : Int) : Option (Int) := laws_heldEntryS.l0 k l0 a1 0
theorem laws_heldEntryS.mono_l : ∀ k, (∀ y0 y1 y2, LeO (laws_heldEntryS.l0 k y0 y1 y2) (laws_heldEntryS.l0 (k + 1) y0 y1 y2))
  | 0 => fun _ _ _ r h => by simp [laws_heldEntryS.l0] at h
  | k + 1 => by
    have ih0 := laws_heldEntryS.mono_l k
    · intro y0 y1 y2
      unfold laws_heldEntryS.l0
      repeat' first
      | (with_reducible exact ih0 _ _ _)
      | (with_reducible exact LeO.refl _)
      | (with_reducible exact LeO.none _)
      | (with_reducible refine LeO.ite ?_ ?_)
      | (with_reducible refine LeO.bind ?_ (fun _ => ?_))
      | exact ih0 _ _ _
      | exact LeO.none _
      | refine LeO.ite ?_ ?_
      | refine LeO.bind ?_ (fun _ => ?_)
theorem laws_heldEntryS.mono : ∀ a0 a1 k, LeO (laws_heldEntryS.f k a0 a1) (laws_heldEntryS.f (k + 1) a0 a1) := by
  intro a0 a1 k
  have ih0 := laws_heldEntryS.mono_l k
  unfold laws_heldEntryS.f
  repeat' first
      | (with_reducible exact ih0 _ _ _)
      | (with_reducible exact LeO.refl _)
      | (with_reducible exact LeO.none _)
      | (with_reducible refine LeO.ite ?_ ?_)
      | (with_reducible refine LeO.bind ?_ (fun _ => ?_))
      | exact ih0 _ _ _
      | exact LeO.none _
      | refine LeO.ite ?_ ?_
      | refine LeO.bind ?_ (fun _ => ?_)
set_option maxHeartbeats 8000000 in
set_option maxRecDepth 100000 in
theorem laws_heldEntryS.calls (k : Nat) (A0 : Option Addr) (c0 : Nat) (l0 : List (S82)) (a1 : Int) (r : Int) (w : World) (hr0 : Kd.C k82 w A0 l0.length l0) (hc0 : l0.length ≤ c0) (h : laws_heldEntryS.f k l0 a1 = some r) :
    Calls Try.prog 72 #[.slice A0 l0.length c0, .int .i64 a1] w fun e w' => e = .returned (.int .i64 r) ∧ Drawn0 w w' := by
  have HR0 := Aside0.mk hr0
  have HC0 := Aside0.mk hc0
  clear hr0 hc0
  have H : (laws_heldEntryS.l0 k l0 a1 0) = some r := h
  clear h
  have H' := Aside0.mk H
  clear H
  go_enter Try.func72, Try.ntmps72
  go_wp2
  go_loopg [1, 5] k (fun kq v1 v5 w' => ∃ (x1_1 : Int) (x5_1 : Int), v1 = .int .i64 x1_1 ∧ v5 = .int .i64 x5_1 ∧ Aside0 (laws_heldEntryS.l0 kq l0 x1_1 x5_1 = some r) ∧ Aside0 (kq ≤ k) ∧ Drawn0 w w')
  case atStart => exact ⟨(a1), (0), (by first | rfl | (simp; done) | (simp [*]; done)), (by first | rfl | (simp; done) | (simp [*]; done)), H', ⟨Nat.le_refl _⟩, by repeat (first | exact Drawn0.refl _ | apply Drawn0.step)⟩
  case round =>
    clear H'
    try clear p2
    obtain ⟨x1_1, x5_1, rfl, rfl, HA, HK1, ⟨m1, rfl⟩⟩ := hrel
    cases gk with
    | zero => exact absurd HA.out (by simp [laws_heldEntryS.l0])
    | succ k1 =>
      have H := HA.out
      clear HA
      simp only [laws_heldEntryS.l0] at H
      by_cases c3 : x5_1 < (l0.length : Int)
      · rw [if_pos c3] at H
        have c3b0 : decide (x5_1 < (l0.length : Int)) = true := decide_eq_true c3
        clear c3
        by_cases c4 : 0 ≤ x5_1
        · rw [if_pos c4] at H
          have c4b0 : decide (0 ≤ x5_1) = true := decide_eq_true c4
          clear c4
          by_cases c5 : ((rd_T82 l0 x5_1).f0) = x1_1
          · rw [if_pos c5] at H
            have c5b0 : (((rd_T82 l0 x5_1).f0) == x1_1) = true := beq_iff_eq.mpr c5
            have c5b1 : (((rd_T82 l0 x5_1).f0) != x1_1) = false := bne_eq_false_iff_eq.mpr c5
            clear c5
            by_cases c6 : ((rd_T82 l0 x5_1).f1.f0) = (wrap64 (x1_1 + 1))
            · rw [if_pos c6] at H
              have c6b0 : (((rd_T82 l0 x5_1).f1.f0) == (wrap64 (x1_1 + 1))) = true := beq_iff_eq.mpr c6
              have c6b1 : (((rd_T82 l0 x5_1).f1.f0) != (wrap64 (x1_1 + 1))) = false := bne_eq_false_iff_eq.mpr c6
              clear c6
              by_cases c7 : ((rd_T82 l0 x5_1).f1.f1) = (wrap64 ((wrap64 (x1_1 + 1)) + 1))
              · rw [if_pos c7] at H
                have c7b0 : (((rd_T82 l0 x5_1).f1.f1) == (wrap64 ((wrap64 (x1_1 + 1)) + 1))) = true := beq_iff_eq.mpr c7
                have c7b1 : (((rd_T82 l0 x5_1).f1.f1) != (wrap64 ((wrap64 (x1_1 + 1)) + 1))) = false := bne_eq_false_iff_eq.mpr c7
                clear c7
                by_cases c8 : ((rd_T82 l0 x5_1).f1.f2) = (wrap64 ((wrap64 ((wrap64 (x1_1 + 1)) + 1)) + 1))
                · rw [if_pos c8] at H
                  have c8b0 : (((rd_T82 l0 x5_1).f1.f2) == (wrap64 ((wrap64 ((wrap64 (x1_1 + 1)) + 1)) + 1))) = true := beq_iff_eq.mpr c8
                  have c8b1 : (((rd_T82 l0 x5_1).f1.f2) != (wrap64 ((wrap64 ((wrap64 (x1_1 + 1)) + 1)) + 1))) = false := bne_eq_false_iff_eq.mpr c8
                  clear c8
                  by_cases c9 : ((rd_T82 l0 x5_1).f1.f3) = (wrap64 ((wrap64 ((wrap64 ((wrap64 (x1_1 + 1)) + 1)) + 1)) + 1))
                  · rw [if_pos c9] at H
                    have c9b0 : (((rd_T82 l0 x5_1).f1.f3) == (wrap64 ((wrap64 ((wrap64 ((wrap64 (x1_1 + 1)) + 1)) + 1)) + 1))) = true := beq_iff_eq.mpr c9
                    have c9b1 : (((rd_T82 l0 x5_1).f1.f3) != (wrap64 ((wrap64 ((wrap64 ((wrap64 (x1_1 + 1)) + 1)) + 1)) + 1))) = false := bne_eq_false_iff_eq.mpr c9
                    clear c9
                    have H' := Aside0.mk H
                    clear H
                    have p159 : 0 ≤ (x5_1 : Int) := of_decide_eq_true (by first | (with_reducible assumption) | assumption)
                    have q159 : x5_1 < (l0.length : Int) := of_decide_eq_true (by first | (with_reducible assumption) | assumption)
                    obtain ⟨ad159, e159, hx159_0, hx159_1, hx159_2, hx159_3, hx159_4⟩ := at_T82 HR0.out x5_1 p159 q159
                    cases e159
                    replace p159 := eq_true p159
                    replace q159 := eq_true q159
                    have p160 : 0 ≤ (x5_1 : Int) := of_decide_eq_true (by first | (with_reducible assumption) | assumption)
                    have q160 : x5_1 < (l0.length : Int) := of_decide_eq_true (by first | (with_reducible assumption) | assumption)
                    obtain ⟨ad160, e160, hx160_0, hx160_1, hx160_2, hx160_3, hx160_4⟩ := at_T82 HR0.out x5_1 p160 q160
                    obtain rfl : ad159 = ad160 := (by injection e160)
                    replace p160 := eq_true p160
                    replace q160 := eq_true q160
                    have p161 : 0 ≤ (x5_1 : Int) := of_decide_eq_true (by first | (with_reducible assumption) | assumption)
                    have q161 : x5_1 < (l0.length : Int) := of_decide_eq_true (by first | (with_reducible assumption) | assumption)
                    obtain ⟨ad161, e161, hx161_0, hx161_1, hx161_2, hx161_3, hx161_4⟩ := at_T82 HR0.out x5_1 p161 q161
                    obtain rfl : ad159 = ad161 := (by injection e161)
                    replace p161 := eq_true p161
                    replace q161 := eq_true q161
                    have p162 : 0 ≤ (x5_1 : Int) := of_decide_eq_true (by first | (with_reducible assumption) | assumption)
                    have q162 : x5_1 < (l0.length : Int) := of_decide_eq_true (by first | (with_reducible assumption) | assumption)
                    obtain ⟨ad162, e162, hx162_0, hx162_1, hx162_2, hx162_3, hx162_4⟩ := at_T82 HR0.out x5_1 p162 q162
                    obtain rfl : ad159 = ad162 := (by injection e162)
                    replace p162 := eq_true p162
                    replace q162 := eq_true q162
                    have p163 : 0 ≤ (x5_1 : Int) := of_decide_eq_true (by first | (with_reducible assumption) | assumption)
                    have q163 : x5_1 < (l0.length : Int) := of_decide_eq_true (by first | (with_reducible assumption) | assumption)
                    obtain ⟨ad163, e163, hx163_0, hx163_1, hx163_2, hx163_3, hx163_4⟩ := at_T82 HR0.out x5_1 p163 q163
                    obtain rfl : ad159 = ad163 := (by injection e163)
                    replace p163 := eq_true p163
                    replace q163 := eq_true q163
                    go_wp2
                    go_roundg k1
                    case measure => have := HK1.out; omega
                    case rel => exact ⟨(wrap64 ((wrap64 ((wrap64 ((wrap64 ((wrap64 (x1_1 + 1)) + 1)) + 1)) + 1)) + 1)), (wrap64 (x5_1 + 1)), (by first | rfl | (simp; done) | (simp [*]; done)), (by first | rfl | (simp; done) | (simp [*]; done)), H', ⟨by have := HK1.out; omega⟩, by repeat (first | exact Drawn0.refl _ | apply Drawn0.step)⟩
                  · rw [if_neg c9] at H
                    have c9b0 : (((rd_T82 l0 x5_1).f1.f3) == (wrap64 ((wrap64 ((wrap64 ((wrap64 (x1_1 + 1)) + 1)) + 1)) + 1))) = false := beq_eq_false_iff_ne.mpr c9
                    have c9b1 : (((rd_T82 l0 x5_1).f1.f3) != (wrap64 ((wrap64 ((wrap64 ((wrap64 (x1_1 + 1)) + 1)) + 1)) + 1))) = true := bne_iff_ne.mpr c9
                    obtain rfl := Option.some.inj H
                    have p159 : 0 ≤ (x5_1 : Int) := of_decide_eq_true (by first | (with_reducible assumption) | assumption)
                    have q159 : x5_1 < (l0.length : Int) := of_decide_eq_true (by first | (with_reducible assumption) | assumption)
                    obtain ⟨ad159, e159, hx159_0, hx159_1, hx159_2, hx159_3, hx159_4⟩ := at_T82 HR0.out x5_1 p159 q159
                    cases e159
                    replace p159 := eq_true p159
                    replace q159 := eq_true q159
                    have p160 : 0 ≤ (x5_1 : Int) := of_decide_eq_true (by first | (with_reducible assumption) | assumption)
                    have q160 : x5_1 < (l0.length : Int) := of_decide_eq_true (by first | (with_reducible assumption) | assumption)
                    obtain ⟨ad160, e160, hx160_0, hx160_1, hx160_2, hx160_3, hx160_4⟩ := at_T82 HR0.out x5_1 p160 q160
                    obtain rfl : ad159 = ad160 := (by injection e160)
                    replace p160 := eq_true p160
                    replace q160 := eq_true q160
                    have p161 : 0 ≤ (x5_1 : Int) := of_decide_eq_true (by first | (with_reducible assumption) | assumption)
                    have q161 : x5_1 < (l0.length : Int) := of_decide_eq_true (by first | (with_reducible assumption) | assumption)
                    obtain ⟨ad161, e161, hx161_0, hx161_1, hx161_2, hx161_3, hx161_4⟩ := at_T82 HR0.out x5_1 p161 q161
                    obtain rfl : ad159 = ad161 := (by injection e161)
                    replace p161 := eq_true p161
                    replace q161 := eq_true q161
                    have p162 : 0 ≤ (x5_1 : Int) := of_decide_eq_true (by first | (with_reducible assumption) | assumption)
                    have q162 : x5_1 < (l0.length : Int) := of_decide_eq_true (by first | (with_reducible assumption) | assumption)
                    obtain ⟨ad162, e162, hx162_0, hx162_1, hx162_2, hx162_3, hx162_4⟩ := at_T82 HR0.out x5_1 p162 q162
                    obtain rfl : ad159 = ad162 := (by injection e162)
                    replace p162 := eq_true p162
                    replace q162 := eq_true q162
                    have p163 : 0 ≤ (x5_1 : Int) := of_decide_eq_true (by first | (with_reducible assumption) | assumption)
                    have q163 : x5_1 < (l0.length : Int) := of_decide_eq_true (by first | (with_reducible assumption) | assumption)
                    obtain ⟨ad163, e163, hx163_0, hx163_1, hx163_2, hx163_3, hx163_4⟩ := at_T82 HR0.out x5_1 p163 q163
                    obtain rfl : ad159 = ad163 := (by injection e163)
                    replace p163 := eq_true p163
                    replace q163 := eq_true q163
                    go_wp2
                    go_ret
                    exact ⟨by first | rfl | (simp; done) | (simp [*]; done), by repeat (first | exact Drawn0.refl _ | apply Drawn0.step)⟩
                · rw [if_neg c8] at H
                  have c8b0 : (((rd_T82 l0 x5_1).f1.f2) == (wrap64 ((wrap64 ((wrap64 (x1_1 + 1)) + 1)) + 1))) = false := beq_eq_false_iff_ne.mpr c8
                  have c8b1 : (((rd_T82 l0 x5_1).f1.f2) != (wrap64 ((wrap64 ((wrap64 (x1_1 + 1)) + 1)) + 1))) = true := bne_iff_ne.mpr c8
                  obtain rfl := Option.some.inj H
                  have p159 : 0 ≤ (x5_1 : Int) := of_decide_eq_true (by first | (with_reducible assumption) | assumption)
                  have q159 : x5_1 < (l0.length : Int) := of_decide_eq_true (by first | (with_reducible assumption) | assumption)
                  obtain ⟨ad159, e159, hx159_0, hx159_1, hx159_2, hx159_3, hx159_4⟩ := at_T82 HR0.out x5_1 p159 q159
                  cases e159
                  replace p159 := eq_true p159
                  replace q159 := eq_true q159
                  have p160 : 0 ≤ (x5_1 : Int) := of_decide_eq_true (by first | (with_reducible assumption) | assumption)
                  have q160 : x5_1 < (l0.length : Int) := of_decide_eq_true (by first | (with_reducible assumption) | assumption)
                  obtain ⟨ad160, e160, hx160_0, hx160_1, hx160_2, hx160_3, hx160_4⟩ := at_T82 HR0.out x5_1 p160 q160
                  obtain rfl : ad159 = ad160 := (by injection e160)
                  replace p160 := eq_true p160
                  replace q160 := eq_true q160
                  have p161 : 0 ≤ (x5_1 : Int) := of_decide_eq_true (by first | (with_reducible assumption) | assumption)
                  have q161 : x5_1 < (l0.length : Int) := of_decide_eq_true (by first | (with_reducible assumption) | assumption)
                  obtain ⟨ad161, e161, hx161_0, hx161_1, hx161_2, hx161_3, hx161_4⟩ := at_T82 HR0.out x5_1 p161 q161
                  obtain rfl : ad159 = ad161 := (by injection e161)
                  replace p161 := eq_true p161
                  replace q161 := eq_true q161
                  have p162 : 0 ≤ (x5_1 : Int) := of_decide_eq_true (by first | (with_reducible assumption) | assumption)
                  have q162 : x5_1 < (l0.length : Int) := of_decide_eq_true (by first | (with_reducible assumption) | assumption)
                  obtain ⟨ad162, e162, hx162_0, hx162_1, hx162_2, hx162_3, hx162_4⟩ := at_T82 HR0.out x5_1 p162 q162
                  obtain rfl : ad159 = ad162 := (by injection e162)
                  replace p162 := eq_true p162
                  replace q162 := eq_true q162
                  go_wp2
                  go_ret
                  exact ⟨by first | rfl | (simp; done) | (simp [*]; done), by repeat (first | exact Drawn0.refl _ | apply Drawn0.step)⟩
              · rw [if_neg c7] at H
                have c7b0 : (((rd_T82 l0 x5_1).f1.f1) == (wrap64 ((wrap64 (x1_1 + 1)) + 1))) = false := beq_eq_false_iff_ne.mpr c7
                have c7b1 : (((rd_T82 l0 x5_1).f1.f1) != (wrap64 ((wrap64 (x1_1 + 1)) + 1))) = true := bne_iff_ne.mpr c7
                obtain rfl := Option.some.inj H
                have p159 : 0 ≤ (x5_1 : Int) := of_decide_eq_true (by first | (with_reducible assumption) | assumption)
                have q159 : x5_1 < (l0.length : Int) := of_decide_eq_true (by first | (with_reducible assumption) | assumption)
                obtain ⟨ad159, e159, hx159_0, hx159_1, hx159_2, hx159_3, hx159_4⟩ := at_T82 HR0.out x5_1 p159 q159
                cases e159
                replace p159 := eq_true p159
                replace q159 := eq_true q159
                have p160 : 0 ≤ (x5_1 : Int) := of_decide_eq_true (by first | (with_reducible assumption) | assumption)
                have q160 : x5_1 < (l0.length : Int) := of_decide_eq_true (by first | (with_reducible assumption) | assumption)
                obtain ⟨ad160, e160, hx160_0, hx160_1, hx160_2, hx160_3, hx160_4⟩ := at_T82 HR0.out x5_1 p160 q160
                obtain rfl : ad159 = ad160 := (by injection e160)
                replace p160 := eq_true p160
                replace q160 := eq_true q160
                have p161 : 0 ≤ (x5_1 : Int) := of_decide_eq_true (by first | (with_reducible assumption) | assumption)
                have q161 : x5_1 < (l0.length : Int) := of_decide_eq_true (by first | (with_reducible assumption) | assumption)
                obtain ⟨ad161, e161, hx161_0, hx161_1, hx161_2, hx161_3, hx161_4⟩ := at_T82 HR0.out x5_1 p161 q161
                obtain rfl : ad159 = ad161 := (by injection e161)
                replace p161 := eq_true p161
                replace q161 := eq_true q161
                go_wp2
                go_ret
                exact ⟨by first | rfl | (simp; done) | (simp [*]; done), by repeat (first | exact Drawn0.refl _ | apply Drawn0.step)⟩
            · rw [if_neg c6] at H
              have c6b0 : (((rd_T82 l0 x5_1).f1.f0) == (wrap64 (x1_1 + 1))) = false := beq_eq_false_iff_ne.mpr c6
              have c6b1 : (((rd_T82 l0 x5_1).f1.f0) != (wrap64 (x1_1 + 1))) = true := bne_iff_ne.mpr c6
              obtain rfl := Option.some.inj H
              have p159 : 0 ≤ (x5_1 : Int) := of_decide_eq_true (by first | (with_reducible assumption) | assumption)
              have q159 : x5_1 < (l0.length : Int) := of_decide_eq_true (by first | (with_reducible assumption) | assumption)
              obtain ⟨ad159, e159, hx159_0, hx159_1, hx159_2, hx159_3, hx159_4⟩ := at_T82 HR0.out x5_1 p159 q159
              cases e159
              replace p159 := eq_true p159
              replace q159 := eq_true q159
              have p160 : 0 ≤ (x5_1 : Int) := of_decide_eq_true (by first | (with_reducible assumption) | assumption)
              have q160 : x5_1 < (l0.length : Int) := of_decide_eq_true (by first | (with_reducible assumption) | assumption)
              obtain ⟨ad160, e160, hx160_0, hx160_1, hx160_2, hx160_3, hx160_4⟩ := at_T82 HR0.out x5_1 p160 q160
              obtain rfl : ad159 = ad160 := (by injection e160)
              replace p160 := eq_true p160
              replace q160 := eq_true q160
              go_wp2
              go_ret
              exact ⟨by first | rfl | (simp; done) | (simp [*]; done), by repeat (first | exact Drawn0.refl _ | apply Drawn0.step)⟩
          · rw [if_neg c5] at H
            have c5b0 : (((rd_T82 l0 x5_1).f0) == x1_1) = false := beq_eq_false_iff_ne.mpr c5
            have c5b1 : (((rd_T82 l0 x5_1).f0) != x1_1) = true := bne_iff_ne.mpr c5
            obtain rfl := Option.some.inj H
            have p159 : 0 ≤ (x5_1 : Int) := of_decide_eq_true (by first | (with_reducible assumption) | assumption)
            have q159 : x5_1 < (l0.length : Int) := of_decide_eq_true (by first | (with_reducible assumption) | assumption)
            obtain ⟨ad159, e159, hx159_0, hx159_1, hx159_2, hx159_3, hx159_4⟩ := at_T82 HR0.out x5_1 p159 q159
            cases e159
            replace p159 := eq_true p159
            replace q159 := eq_true q159
            go_wp2
            go_ret
            exact ⟨by first | rfl | (simp; done) | (simp [*]; done), by repeat (first | exact Drawn0.refl _ | apply Drawn0.step)⟩
        · rw [if_neg c4] at H
          exact absurd H (by simp)
      · rw [if_neg c3] at H
        have c3b0 : decide (x5_1 < (l0.length : Int)) = false := decide_eq_false c3
        clear c3
        obtain rfl := Option.some.inj H
        go_wp2
        go_ret
        exact ⟨by first | rfl | (simp; done) | (simp [*]; done), by repeat (first | exact Drawn0.refl _ | apply Drawn0.step)⟩

end Go.Proofs.Ythenmlaleobapaa.All

/- Plain laws of the printed marks of entries. No condition. -/
namespace Go.Proofs.Ythenmlaleobapaa.Pure
open Go.RowKit Go.Proofs.Ythenmlaleobapaa.All Go.Proofs.YthenmlaleobapaaW.PrintWords Go.Proofs.YthenmlaleobapaaW.PrintLast
set_option linter.unusedVariables false

def mkE (n : Int) : S82 := ⟨n, ⟨n + 1, n + 2, n + 3, n + 4⟩⟩
theorem w1_up {n : Int} (h0 : 0 ≤ n) (h1 : n + 1 ≤ 4611686018427387904) : wrap64 (n + 1) = n + 1 := wrap_small (by omega) (by omega)
theorem markEntryS_f (l : List S82) (n : Int) (hn : 0 ≤ n) (hb : n + 5 * l.length ≤ 4611686018427387904) : Evn (fun k => laws_markEntryS.f k l n) (n + 5 * l.length, marks mkE 5 n l.length) := by
  exact mark_loop (L := laws_markEntryS.l0) (f := mkE) (s := 5) (by decide) (fun k done a rest n hn hb hl => by
    rw [laws_markEntryS.l0, if_pos (mid_lt _ _ _), if_pos (by omega), Int.toNat_natCast, set_mid, succ_small hl]
    simp only [w1]
    rw [w1_up hn (by omega), w1_up (show 0 ≤ n + 1 by omega) (by omega), w1_up (show 0 ≤ n + 1 + 1 by omega) (by omega), w1_up (show 0 ≤ n + 1 + 1 + 1 by omega) (by omega), w1_up (show 0 ≤ n + 1 + 1 + 1 + 1 by omega) (by omega)]
    have e2 : n + 1 + 1 = n + 2 := by omega
    have e3 : n + 1 + 1 + 1 = n + 3 := by omega
    have e4 : n + 1 + 1 + 1 + 1 = n + 4 := by omega
    have e5 : n + 1 + 1 + 1 + 1 + 1 = n + 5 := by omega
    rw [e5, e4, e3, e2]
    rfl) (fun k xs n => by rw [laws_markEntryS.l0, if_neg (by omega)]) l [] n hn hb (by simp; omega)
theorem heldEntryS_f (m : Nat) (n : Int) (hn : 0 ≤ n) (hb : n + 5 * m ≤ 4611686018427387904) : Evn (fun k => laws_heldEntryS.f k (marks mkE 5 n m) n) (n + 5 * m) := by
  exact held_loop (H := laws_heldEntryS.l0) (f := mkE) (s := 5) (by decide) (fun k done rest n hn hb hl => by
    rw [laws_heldEntryS.l0, if_pos (mid_lt _ _ _), if_pos (by omega), show rd_T82 (done ++ mkE n :: rest) (done.length : Int) = mkE n from getD_mid done (mkE n) rest _, succ_small hl]
    rw [w1_up hn (by omega), w1_up (show 0 ≤ n + 1 by omega) (by omega), w1_up (show 0 ≤ n + 1 + 1 by omega) (by omega), w1_up (show 0 ≤ n + 1 + 1 + 1 by omega) (by omega), w1_up (show 0 ≤ n + 1 + 1 + 1 + 1 by omega) (by omega)]
    rw [if_pos (show (mkE n).f0 = n from rfl), if_pos (show (mkE n).f1.f0 = n + 1 from rfl), if_pos (show (mkE n).f1.f1 = n + 1 + 1 by show n + 2 = _; omega), if_pos (show (mkE n).f1.f2 = n + 1 + 1 + 1 by show n + 3 = _; omega), if_pos (show (mkE n).f1.f3 = n + 1 + 1 + 1 + 1 by show n + 4 = _; omega), show n + 1 + 1 + 1 + 1 + 1 = n + 5 by omega]) (fun k xs n => by rw [laws_heldEntryS.l0, if_neg (by omega)]) m [] n hn hb (by simp; omega)

end Go.Proofs.Ythenmlaleobapaa.Pure

/- Plain laws of the marks of a book. No condition. -/
namespace Go.Proofs.Ythenmlaleobapaa.Pure
open Go.RowKit Go.Proofs.Ythenmlaleobapaa.All Go.Proofs.YthenmlaleobapaaW.PrintWords Go.Proofs.YthenmlaleobapaaW.PrintLast
set_option linter.unusedVariables false

/-- What the marks cost, and what they leave. -/
def bookCost : List Pg → Int
  | [] => 0
  | p :: t => 2 + 5 * p.f1.f1.length + bookCost t
def bookMarks : Int → List Pg → List Pg
  | _, [] => []
  | n, p :: t => ⟨m3 n, ⟨m3 (n + 1), marks mkE 5 (n + 2) p.f1.f1.length⟩⟩ :: bookMarks (n + 2 + 5 * p.f1.f1.length) t
theorem bookCost_nn : ∀ l, 0 ≤ bookCost l
  | [] => Int.le_refl _
  | p :: t => by
    have := bookCost_nn t
    rw [bookCost]
    omega
theorem markPageS_f : ∀ (rest done : List Pg) (n : Int), 0 ≤ n → n + bookCost rest ≤ 4611686018427387904 → done.length + rest.length ≤ 4611686018427387904 → Evn (fun k => laws_markPageS.l0 k (done ++ rest) n done.length) (n + bookCost rest, done ++ bookMarks n rest)
  | [], done, n, _, _, _ => by
    refine Evn.step (fun k => ?_) (Evn.ret _)
    rw [List.append_nil, laws_markPageS.l0, if_neg (by omega)]
    simp [bookCost, bookMarks]
  | p :: rest, done, n, hn, hb, hl => by
    rw [bookCost] at hb
    rw [List.length_cons] at hl
    have hc := bookCost_nn rest
    have h1 := markEntryS_f p.f1.f1 (n + 2) (by omega) (by omega)
    have ih := markPageS_f rest (done ++ [⟨m3 n, ⟨m3 (n + 1), marks mkE 5 (n + 2) p.f1.f1.length⟩⟩]) (n + 2 + 5 * p.f1.f1.length) (by omega) (by omega) (by rw [List.length_append]; simp; omega)
    have hrd : rd_T77 (done ++ p :: rest) (done.length : Int) = p := getD_mid done p rest _
    refine Evn.step (g' := fun k => (laws_markEntryS.f k p.f1.f1 (n + 2)).bind fun t => laws_markPageS.l0 k (done ++ ⟨m3 n, ⟨m3 (n + 1), t.2⟩⟩ :: rest) t.1 ((done.length + 1 : Nat) : Int)) (fun k => ?_) (Evn.bind h1 ?_)
    · rw [laws_markPageS.l0, if_pos (mid_lt _ _ _), if_pos (by omega), hrd, succ_small (by omega), Int.toNat_natCast]
      simp only [w1]
      rw [w1_up hn (by omega), w1_up (show 0 ≤ n + 1 by omega) (by omega), show n + 1 + 1 = n + 2 by omega]
      simp only [set_mid]
    · rw [bookCost, bookMarks, show n + (2 + 5 * (p.f1.f1.length : Int) + bookCost rest) = n + 2 + 5 * (p.f1.f1.length : Int) + bookCost rest by omega]
      simpa using ih
theorem markBook_f (a : Int) (l : List Pg) (n : Int) (hn : 0 ≤ n) (hb : n + bookCost l ≤ 4611686018427387904) (hl : l.length ≤ 4611686018427387904) : Evn (fun k => laws_markBook.f k a l n) (n + bookCost l, bookMarks n l) :=
  markPageS_f l [] n hn hb (by simpa using hl)
theorem bookCost_le (b : Nat) : ∀ l : List Pg, (∀ p ∈ l, p.f1.f1.length ≤ b) → bookCost l ≤ l.length * (2 + 5 * b : Nat)
  | [], _ => by simp [bookCost]
  | p :: t, h => by
    have ih := bookCost_le b t (fun q hq => h q (List.mem_cons_of_mem _ hq))
    have hp := h p (List.mem_cons_self ..)
    rw [bookCost, List.length_cons, Int.natCast_succ, Int.add_mul, Int.one_mul]
    omega
theorem bookCost_small (l : List Pg) (hl : l.length ≤ 1048576) (hp : ∀ p ∈ l, p.f1.f1.length ≤ 1048576) : bookCost l ≤ 6597069766656000 := by
  have h := bookCost_le 1048576 l hp
  have h2 : (l.length : Int) * ((2 + 5 * 1048576 : Nat) : Int) ≤ 1048576 * ((2 + 5 * 1048576 : Nat) : Int) := Int.mul_le_mul_of_nonneg_right (by omega) (by omega)
  omega

end Go.Proofs.Ythenmlaleobapaa.Pure

/- The walk over a book ends, and each page that it gives is there, is used, and comes once. No condition. -/
namespace Go.Proofs.Ythenmlaleobapaa.Pure
open Go.RowKit Go.Proofs.Ythenmlaleobapaa.All Go.Proofs.YthenmlaleobapaaW.PrintWords Go.Proofs.YthenmlaleobapaaW.PrintLast
set_option linter.unusedVariables false

theorem nodup_sub : ∀ (l u : List Int), l.Nodup → (∀ x ∈ l, x ∈ u) → l.length ≤ u.length
  | [], u, _, _ => Nat.zero_le _
  | a :: l, u, hn, hs => by
    rw [List.nodup_cons] at hn
    have ha : a ∈ u := hs a (List.mem_cons_self ..)
    have h1 := nodup_sub l (u.erase a) hn.2 (fun x hx => by
      have hne : x ≠ a := fun e => hn.1 (e ▸ hx)
      exact (List.mem_erase_of_ne hne).2 (hs x (List.mem_cons_of_mem _ hx)))
    rw [List.length_erase_of_mem ha] at h1
    have h2 := List.length_pos_of_mem ha
    simp only [List.length_cons]
    omega
theorem nodup_full (l u : List Int) (hn : l.Nodup) (hs : ∀ x ∈ l, x ∈ u) (hl : u.length ≤ l.length) : ∀ x ∈ u, x ∈ l := by
  intro x hx
  by_cases h : x ∈ l
  · exact h
  · have := nodup_sub (x :: l) u (List.nodup_cons.2 ⟨h, hn⟩) (fun y hy => by
      rcases List.mem_cons.1 hy with e | e
      · exact e ▸ hx
      · exact hs y e)
    simp only [List.length_cons] at this
    omega
def upto (n : Nat) : List Int := (List.range n).map fun (i : Nat) => (i : Int)
theorem upto_len (n : Nat) : (upto n).length = n := by simp [upto]
theorem mem_upto {n : Nat} {x : Int} : x ∈ upto n ↔ 0 ≤ x ∧ x < n := by
  unfold upto
  rw [List.mem_map]
  constructor
  · rintro ⟨i, hi, rfl⟩
    rw [List.mem_range] at hi
    omega
  · intro h
    exact ⟨x.toNat, List.mem_range.2 (by omega), by omega⟩

/-- Pages that are there and used, each once. -/
def Once (ps : List Pg) (out : List Int) : Prop := out.Nodup ∧ ∀ i ∈ out, pgOk ps i
theorem Once.len {ps : List Pg} {out : List Int} (h : Once ps out) : out.length ≤ ps.length := by
  have := nodup_sub out (upto ps.length) h.1 (fun x hx => mem_upto.2 ⟨(h.2 x hx).1, (h.2 x hx).2.1⟩)
  rwa [upto_len] at this
theorem Once.nil (ps : List Pg) : Once ps [] := ⟨List.nodup_nil, fun _ h => absurd h (List.not_mem_nil)⟩
theorem Once.snoc {ps : List Pg} {out : List Int} (h : Once ps out) {i : Int} (hi : pgOk ps i) (hn : i ∉ out) : Once ps (out ++ [i]) := by
  refine ⟨?_, fun x hx => ?_⟩
  · rw [List.nodup_append]
    refine ⟨h.1, by simp, ?_⟩
    intro a ha b hb e
    rw [List.mem_singleton] at hb
    subst hb
    subst e
    exact hn ha
  · rcases List.mem_append.1 hx with hx | hx
    · exact h.2 x hx
    · rw [List.mem_singleton] at hx
      exact hx ▸ hi

theorem walkL_ends (ps : List Pg) (n : Nat) (ih : ∀ out, Once ps out → ps.length ≤ out.length + n → ∀ i, ∃ r, Evn (fun k => walkM k ps i out) r ∧ Once ps r ∧ out.length ≤ r.length) (b : Bool) (es : List En) (he : es.length ≤ 1048576) :
    ∀ d x : Nat, x + d = es.length → ∀ o, Once ps o → ps.length ≤ o.length + n → ∃ r, Evn (fun k => walkL k ps b es o (x : Int)) r ∧ Once ps r ∧ o.length ≤ r.length
  | 0, x, hx, o, ho, hn => ⟨o, Evn.step (fun k => by rw [walkL, if_neg (by omega)]) (Evn.ret _), ho, Nat.le_refl _⟩
  | d + 1, x, hx, o, ho, hn => by
    cases b with
    | true => exact ⟨o, Evn.step (fun k => by rw [walkL, if_pos (by omega), if_pos rfl]) (Evn.ret _), ho, Nat.le_refl _⟩
    | false =>
      obtain ⟨r1, h1, o1, l1⟩ := ih o ho hn (rd_T82 es (x : Int)).f0
      obtain ⟨r2, h2, o2, l2⟩ := walkL_ends ps n ih false es he d (x + 1) (by omega) r1 o1 (by omega)
      have hw : wrap64 ((x : Int) + 1) = ((x + 1 : Nat) : Int) := by
        unfold wrap64
        omega
      exact ⟨r2, Evn.step (fun k => by rw [walkL, if_pos (by omega), if_neg (by decide), if_pos (by omega), hw]) (Evn.bind h1 h2), o2, by omega⟩
theorem walk_ends (ps : List Pg) (hp : ps.length ≤ 1048576) (he : ∀ p ∈ ps, p.f1.f1.length ≤ 1048576) : ∀ n out, Once ps out → ps.length ≤ out.length + n → ∀ i, ∃ r, Evn (fun k => walkM k ps i out) r ∧ Once ps r ∧ out.length ≤ r.length := by
  intro n
  induction n with
  | zero =>
    intro out ho hn i
    have hl := ho.len
    by_cases h1 : pgOk ps i
    · by_cases h2 : i ∈ out
      · exact ⟨out, Evn.step (fun k => by rw [walkM, if_pos h1, if_pos (by omega), if_pos h2]) (Evn.ret _), ho, Nat.le_refl _⟩
      · have := (ho.snoc h1 h2).len
        rw [List.length_append, List.length_singleton] at this
        omega
    · exact ⟨out, Evn.step (fun k => by rw [walkM, if_neg h1]) (Evn.ret _), ho, Nat.le_refl _⟩
  | succ n ih =>
    intro out ho hn i
    have hl := ho.len
    by_cases h1 : pgOk ps i
    · by_cases h2 : i ∈ out
      · exact ⟨out, Evn.step (fun k => by rw [walkM, if_pos h1, if_pos (by omega), if_pos h2]) (Evn.ret _), ho, Nat.le_refl _⟩
      · have hes : (rd_T77 ps i).f1.f1.length ≤ 1048576 := by
          obtain ⟨m, rfl⟩ : ∃ m : Nat, i = (m : Int) := ⟨i.toNat, by have := h1.1; omega⟩
          have hm : m < ps.length := by have := h1.2.1; omega
          rw [rdPg_at ps m hm]
          exact he _ (List.getElem_mem hm)
        obtain ⟨r, hr, h3, h4⟩ := walkL_ends ps n ih _ _ hes _ 0 (Nat.zero_add _) (out ++ [i]) (ho.snoc h1 h2) (by rw [List.length_append, List.length_singleton]; omega)
        refine ⟨r, Evn.step (fun k => by rw [walkM, if_pos h1, if_pos (by omega), if_neg h2]; rfl) hr, h3, ?_⟩
        rw [List.length_append, List.length_singleton] at h4
        omega
    · exact ⟨out, Evn.step (fun k => by rw [walkM, if_neg h1]) (Evn.ret _), ho, Nat.le_refl _⟩
/-- What is reached from the root on. -/
theorem reach_ends (ps : List Pg) (hp : ps.length ≤ 1048576) (he : ∀ p ∈ ps, p.f1.f1.length ≤ 1048576) (i : Int) : ∃ r, Evn (fun k => walkM k ps i []) r ∧ Once ps r := by
  obtain ⟨r, h1, h2, _⟩ := walk_ends ps hp he ps.length [] (Once.nil ps) (by simp) i
  exact ⟨r, h1, h2⟩

end Go.Proofs.Ythenmlaleobapaa.Pure

namespace Go.Proofs.Ythenmlaleobapaa.All
open Go.RowKit Go.Proofs.YthenmlaleobapaaW.PrintWords Go.Proofs.YthenmlaleobapaaW.PrintLast Go.Proofs.YthenmlaleobapaaW.PrintMore
attribute [local go_sem] max2_int min2_int max_two min_two max_three min_three max_four min_four   -- for this text's walks alone
set_option linter.unusedVariables false
set_option linter.unusedSimpArgs false

/-! ### impl_Reach: function 45 -/
def impl_Reach.f (k : Nat) (a0_0 : Int) (l0_1 : List (S77)) : Option (List Int) := (impl_reachFrom.f k a0_0 l0_1 a0_0).bind fun t268 => (some t268)
theorem impl_Reach.mono : ∀ a0 a1 k, LeO (impl_Reach.f k a0 a1) (impl_Reach.f (k + 1) a0 a1) := by
  intro a0 a1 k
  unfold impl_Reach.f
  repeat' first
      | (with_reducible exact impl_reachFrom.mono _ _ _ _)
      | (with_reducible exact LeO.refl _)
      | (with_reducible exact LeO.none _)
      | (with_reducible refine LeO.ite ?_ ?_)
      | (with_reducible refine LeO.bind ?_ (fun _ => ?_))
      | exact impl_reachFrom.mono _ _ _ _
      | exact LeO.none _
      | refine LeO.ite ?_ ?_
      | refine LeO.bind ?_ (fun _ => ?_)
set_option maxHeartbeats 8000000 in
set_option maxRecDepth 100000 in
theorem impl_Reach.calls (k : Nat) (a0_0 : Int) (A0_1 : Option Addr) (c0_1 : Nat) (l0_1 : List (S77)) (r : List Int) (w : World) (hr0_1 : Kd.C k77 w A0_1 l0_1.length l0_1) (hc0_1 : l0_1.length ≤ c0_1) (h : impl_Reach.f k a0_0 l0_1 = some r) :
    Calls Try.prog 45 #[.agg #[.int .i64 a0_0, .slice A0_1 l0_1.length c0_1]] w fun e w' => ∃ v0_ : Value, e = .returned (v0_) ∧ Kd.R (Kd.int .i64) 3 w' w.heap.size (fun _ => True) v0_ r ∧ Below w.heap.size w w' := by
  have hu36 := Try.underlying36
  have HR0_1 := Aside0.mk hr0_1
  have HC0_1 := Aside0.mk hc0_1
  clear hr0_1 hc0_1
  have HB := Aside0.mk (Below.refl w.heap.size w)
  have H : ((impl_reachFrom.f k a0_0 l0_1 a0_0).bind fun t268 => (some t268)) = some r := h
  clear h
  replace H := Option.bind_eq_some_iff.mp H
  obtain ⟨t268, A20, H⟩ := H
  replace H : (some t268) = some r := H
  have A2 := Aside0.mk A20
  clear A20
  obtain rfl := Option.some.inj H
  go_enter Try.func45, Try.ntmps45
  go_wp2_with (first | ((with_reducible refine gate_dst (N := 1) rfl ?_); refine box_event ?hg (N := 1) ?hd (cs := #[.int .i64 a0_0, .slice A0_1 l0_1.length c0_1]) (t := 36) ?hr ?_; (case hd => rfl); (case hg => rfl); (case hr => first | (go_simp; done) | (go_simp; rfl)); intro gb267 hg w3 hbox hb; have n0_ := Aside0.mk (below_step (by repeat (first | (with_reducible first | exact HB.out | apply below_alloc | apply pw_below_drewN | apply below_drew1) | exact HB.out)) hb); have n1_ := Aside0.mk (hbox); have n2_ := Aside0.mk ((by rw [hg]; exact (below_size (by repeat (first | (with_reducible first | exact HB.out | apply below_alloc | apply pw_below_drewN | apply below_drew1) | exact HB.out))) : w.heap.size ≤ gb267)); have n3_ := Aside0.mk ((by rw [hg]; exact (below_size (by repeat (first | (with_reducible first | exact HB.out | apply below_alloc | apply pw_below_drewN | apply below_drew1) | exact HB.out))) : w.heap.size ≤ gb267)); clear HB; have HB := n0_; have BK267 := n1_; have GW267 := n2_; have GE267 := n3_; clear n0_ n1_ n2_ n3_; clear hb hbox hg; have hcz4_0 : w3.cell? ⟨gb267, 0, none⟩ = some (.int .i64 a0_0) := (blk_cell BK267.out 0).trans rfl; have hcz4_1 : w3.cell? ⟨gb267, 1, none⟩ = some (.slice A0_1 l0_1.length c0_1) := (blk_cell BK267.out 1).trans rfl; have hfz4_0 := blk_frozen BK267.out 0; have hfz4_1 := blk_frozen BK267.out 1) | ((with_reducible refine gate_callee (f := 75) rfl ?_); refine goesL_ (some 6) rfl rfl Try.func75 (by kernel_rfl) rfl #[.agg #[.int .i64 a0_0, .slice A0_1 l0_1.length c0_1], .int .i64 a0_0] rfl (by (try simp only [List.map_toArray, List.map_cons, List.map_nil]); first | done | rfl | (simp only [List.length_drop, List.length_take]; rfl)) ?_; (with_reducible refine (impl_reachFrom.calls k a0_0 _ _ l0_1 a0_0 t268 _ ?side1 ?side2 A2.out).mono ?_); (case side1 => repeat (first | exact (Kd.C_below HR0_1.out HB.out) | (with_reducible refine Kd.C_alloc ?_ _) | (with_reducible refine Kd.C_drewN ?_ _) | (with_reducible refine Kd.C_drew ?_))); (case side2 => exact HC0_1.out); rintro e w5 ⟨v269, rfl, ho0, hb⟩; refine ⟨_, rfl, ?_⟩; have n0_ := Aside0.mk (Kd.R_lower ho0 (below_size (by repeat (first | (with_reducible first | exact HB.out | apply below_alloc | apply pw_below_drewN | apply below_drew1 | refine below_set ?_ GE267.out) | exact HB.out)))); have n1_ := Aside0.mk (blk_below (g := gb267) (o := .cells #[.int .i64 a0_0, .slice A0_1 l0_1.length c0_1] 36 (0, 0)) (by (with_reducible repeat (first | refine blk_drewN ?_ _ | refine blk_drew ?_ | refine blk_alloc ?_ _)); exact BK267.out) hb); have n2_ := Aside0.mk (below_step (by repeat (first | (with_reducible first | exact HB.out | apply below_alloc | apply pw_below_drewN | apply below_drew1 | refine below_set ?_ GE267.out) | exact HB.out)) hb); clear BK267; clear HB; have HO270 := n0_; have BK267 := n1_; have HB := n2_; clear n0_ n1_ n2_; (try clear hb); (try clear hb2); (try clear hk); (try clear hi); (try clear ho0)))
  go_ret
  exact ⟨_, by first | rfl | (simp [errW_none, errW_some] <;> rfl) | (simp [*, errW_none, errW_some] <;> rfl), by (with_reducible repeat (first | apply Kd.R_alloc | apply Kd.R_drewN | apply Kd.R_drew)); exact HO270.out, by repeat (first | (with_reducible first | exact HB.out | apply below_alloc | apply pw_below_drewN | apply below_drew1 | refine below_set ?_ GE267.out) | exact HB.out)⟩

end Go.Proofs.Ythenmlaleobapaa.All

namespace Go.Proofs.Ythenmlaleobapaa.All
open Go.RowKit Go.Proofs.YthenmlaleobapaaW.PrintWords Go.Proofs.YthenmlaleobapaaW.PrintLast Go.Proofs.YthenmlaleobapaaW.PrintMore
attribute [local go_sem] max2_int min2_int max_two min_two max_three min_three max_four min_four   -- for this text's walks alone
set_option linter.unusedVariables false
set_option linter.unusedSimpArgs false

/-! ### impl_Leaves: function 51 -/
def impl_Leaves.l0 : Nat → List Int → List Int → Int → Int → Int → List (S77) → Option (List Int)
  | 0, _, _, _, _, _, _ => none
  | k + 1, x3, x7, x8, x9, x386000, x386001 => if x9 < x8 then (if 0 ≤ x9 then (if x9 < (x7.length : Int) then (if 0 ≤ (rd x7 x9) then (if (rd x7 x9) < (x386001.length : Int) then (if (rd_T77 x386001 (rd x7 x9)).f1.f0 = true then (if x3.length < 17592186044416 then (impl_Leaves.l0 k (x3 ++ [rd x7 x9]) x7 x8 (wrap64 (x9 + 1)) x386000 x386001) else (none)) else (impl_Leaves.l0 k x3 x7 x8 (wrap64 (x9 + 1)) x386000 x386001)) else (none)) else (none)) else (none)) else (none)) else (some x3)
def impl_Leaves.f (k : Nat) (a0_0 : Int) (l0_1 : List (S77)) : Option (List Int) := (impl_Reach.f k a0_0 l0_1).bind fun t386 => (impl_Leaves.l0 k ([] : List Int) t386 (t386.length : Int) 0 a0_0 l0_1)
theorem impl_Leaves.mono_l : ∀ k, (∀ y0 y1 y2 y3 y4 y5, LeO (impl_Leaves.l0 k y0 y1 y2 y3 y4 y5) (impl_Leaves.l0 (k + 1) y0 y1 y2 y3 y4 y5))
  | 0 => fun _ _ _ _ _ _ r h => by simp [impl_Leaves.l0] at h
  | k + 1 => by
    have ih0 := impl_Leaves.mono_l k
    · intro y0 y1 y2 y3 y4 y5
      unfold impl_Leaves.l0
      repeat' first
      | (with_reducible exact ih0 _ _ _ _ _ _)
      | (with_reducible exact impl_Reach.mono _ _ _)
      | (with_reducible exact LeO.refl _)
      | (with_reducible exact LeO.none _)
      | (with_reducible refine LeO.ite ?_ ?_)
      | (with_reducible refine LeO.bind ?_ (fun _ => ?_))
      | exact ih0 _ _ _ _ _ _
      | exact impl_Reach.mono _ _ _
      | exact LeO.none _
      | refine LeO.ite ?_ ?_
      | refine LeO.bind ?_ (fun _ => ?_)
theorem impl_Leaves.mono : ∀ a0 a1 k, LeO (impl_Leaves.f k a0 a1) (impl_Leaves.f (k + 1) a0 a1) := by
  intro a0 a1 k
  have ih0 := impl_Leaves.mono_l k
  unfold impl_Leaves.f
  repeat' first
      | (with_reducible exact ih0 _ _ _ _ _ _)
      | (with_reducible exact impl_Reach.mono _ _ _)
      | (with_reducible exact LeO.refl _)
      | (with_reducible exact LeO.none _)
      | (with_reducible refine LeO.ite ?_ ?_)
      | (with_reducible refine LeO.bind ?_ (fun _ => ?_))
      | exact ih0 _ _ _ _ _ _
      | exact impl_Reach.mono _ _ _
      | exact LeO.none _
      | refine LeO.ite ?_ ?_
      | refine LeO.bind ?_ (fun _ => ?_)
set_option maxHeartbeats 8000000 in
set_option maxRecDepth 100000 in
theorem impl_Leaves.calls (k : Nat) (a0_0 : Int) (A0_1 : Option Addr) (c0_1 : Nat) (l0_1 : List (S77)) (r : List Int) (w : World) (hr0_1 : Kd.C k77 w A0_1 l0_1.length l0_1) (hc0_1 : l0_1.length ≤ c0_1) (h : impl_Leaves.f k a0_0 l0_1 = some r) :
    Calls Try.prog 51 #[.agg #[.int .i64 a0_0, .slice A0_1 l0_1.length c0_1]] w fun e w' => ∃ v0_ : Value, e = .returned (v0_) ∧ Kd.R (Kd.int .i64) 3 w' w.heap.size (fun _ => True) v0_ r ∧ Below w.heap.size w w' := by
  have hu36 := Try.underlying36
  have HR0_1 := Aside0.mk hr0_1
  have HC0_1 := Aside0.mk hc0_1
  clear hr0_1 hc0_1
  have HB := Aside0.mk (Below.refl w.heap.size w)
  have H : ((impl_Reach.f k a0_0 l0_1).bind fun t386 => (impl_Leaves.l0 k ([] : List Int) t386 (t386.length : Int) 0 a0_0 l0_1)) = some r := h
  clear h
  replace H := Option.bind_eq_some_iff.mp H
  obtain ⟨t386, A20, H⟩ := H
  replace H : (impl_Leaves.l0 k ([] : List Int) t386 (t386.length : Int) 0 a0_0 l0_1) = some r := H
  have A2 := Aside0.mk A20
  clear A20
  have H' := Aside0.mk H
  clear H
  go_enter Try.func51, Try.ntmps51
  go_wp2_with (first | ((with_reducible refine gate_dst (N := 1) rfl ?_); refine box_event ?hg (N := 1) ?hd (cs := #[.int .i64 a0_0, .slice A0_1 l0_1.length c0_1]) (t := 36) ?hr ?_; (case hd => rfl); (case hg => rfl); (case hr => first | (go_simp; done) | (go_simp; rfl)); intro gb385 hg w3 hbox hb; have n0_ := Aside0.mk (below_step (by repeat (first | (with_reducible first | exact HB.out | apply below_alloc | apply pw_below_drewN | apply below_drew1) | exact HB.out)) hb); have n1_ := Aside0.mk (hbox); have n2_ := Aside0.mk ((by rw [hg]; exact (below_size (by repeat (first | (with_reducible first | exact HB.out | apply below_alloc | apply pw_below_drewN | apply below_drew1) | exact HB.out))) : w.heap.size ≤ gb385)); have n3_ := Aside0.mk ((by rw [hg]; exact (below_size (by repeat (first | (with_reducible first | exact HB.out | apply below_alloc | apply pw_below_drewN | apply below_drew1) | exact HB.out))) : w.heap.size ≤ gb385)); clear HB; have HB := n0_; have BK385 := n1_; have GW385 := n2_; have GE385 := n3_; clear n0_ n1_ n2_ n3_; clear hb hbox hg; have hcz4_0 : w3.cell? ⟨gb385, 0, none⟩ = some (.int .i64 a0_0) := (blk_cell BK385.out 0).trans rfl; have hcz4_1 : w3.cell? ⟨gb385, 1, none⟩ = some (.slice A0_1 l0_1.length c0_1) := (blk_cell BK385.out 1).trans rfl; have hfz4_0 := blk_frozen BK385.out 0; have hfz4_1 := blk_frozen BK385.out 1) | ((with_reducible refine gate_callee (f := 45) rfl ?_); refine goesL_ (some 7) rfl rfl Try.func45 (by kernel_rfl) rfl #[.agg #[.int .i64 a0_0, .slice A0_1 l0_1.length c0_1]] rfl (by (try simp only [List.map_toArray, List.map_cons, List.map_nil]); first | done | rfl | (simp only [List.length_drop, List.length_take]; rfl)) ?_; (with_reducible refine (impl_Reach.calls k a0_0 _ _ l0_1 t386 _ ?side1 ?side2 A2.out).mono ?_); (case side1 => repeat (first | exact (Kd.C_below HR0_1.out HB.out) | (with_reducible refine Kd.C_alloc ?_ _) | (with_reducible refine Kd.C_drewN ?_ _) | (with_reducible refine Kd.C_drew ?_))); (case side2 => exact HC0_1.out); rintro e w5 ⟨v387, rfl, ho0, hb⟩; refine ⟨_, rfl, ?_⟩; have n0_ := Aside0.mk (Kd.R_lower ho0 (below_size (by repeat (first | (with_reducible first | exact HB.out | apply below_alloc | apply pw_below_drewN | apply below_drew1 | refine below_set ?_ GE385.out) | exact HB.out)))); have n1_ := Aside0.mk (blk_below (g := gb385) (o := .cells #[.int .i64 a0_0, .slice A0_1 l0_1.length c0_1] 36 (0, 0)) (by (with_reducible repeat (first | refine blk_drewN ?_ _ | refine blk_drew ?_ | refine blk_alloc ?_ _)); exact BK385.out) hb); have n2_ := Aside0.mk (below_step (by repeat (first | (with_reducible first | exact HB.out | apply below_alloc | apply pw_below_drewN | apply below_drew1 | refine below_set ?_ GE385.out) | exact HB.out)) hb); clear BK385; clear HB; have HO388 := n0_; have BK385 := n1_; have HB := n2_; clear n0_ n1_ n2_; (try clear hb); (try clear hb2); (try clear hk); (try clear hi); (try clear ho0); obtain ⟨Ao6, co6, eo6⟩ := Kd.R_slice HO388.out; subst eo6))
  go_loopg [3, 9] k (fun kq v3 v9 w' => ∃ (x3_1 : List Int) (x9_1 : Int), v9 = .int .i64 x9_1 ∧ Aside0 (impl_Leaves.l0 kq x3_1 t386 (t386.length : Int) x9_1 a0_0 l0_1 = some r) ∧ Aside0 (kq ≤ k) ∧ Aside0 (Kd.R (Kd.int .i64) 3 w' w.heap.size (fun k_ => some k_ ≠ ((.slice Ao6 t386.length co6) : Value).ownBlock) v3 x3_1) ∧ Aside0 (Kd.R (Kd.int .i64) 3 w' w.heap.size (fun k_ => some k_ ≠ (v3 : Value).ownBlock) (.slice Ao6 t386.length co6) t386) ∧ Aside0 (w'.heap[gb385]? = some (.cells #[.int .i64 a0_0, (.slice A0_1 l0_1.length c0_1)] 36 (0, 0))) ∧ Aside0 (Below w.heap.size w w'))
  case atStart => exact ⟨(([] : List Int)), (0), (by first | rfl | (simp; done) | (simp [*]; done)), H', ⟨Nat.le_refl _⟩, ⟨by first | exact Kd.R_nil _ _ _ _ _ | exact Kd.N_nil _ _ _ _ _ | exact Kd.V_nil _ _ _ _ _ | exact Kd.Q_nil _ _ _ _ _ | exact Kd.S_nil _ _ _ _ _⟩, ⟨by (with_reducible repeat (first | apply Kd.R_alloc | apply Kd.R_drewN | apply Kd.R_drew)); exact Kd.R_mono HO388.out (fun _ hk => (by simp [Value.ownBlock]))⟩, ⟨by (with_reducible repeat (first | refine blk_drewN ?_ _ | refine blk_drew ?_ | refine blk_alloc ?_ _)); exact BK385.out⟩, ⟨by repeat (first | (with_reducible first | exact HB.out | apply below_alloc | apply pw_below_drewN | apply below_drew1 | refine below_set ?_ GE385.out) | exact HB.out)⟩⟩
  case round =>
    clear H'
    try clear p2
    try clear c4
    try clear c5
    try clear hcz4_0
    try clear hcz4_1
    try clear hfz4_0
    try clear hfz4_1
    obtain ⟨x3_1, x9_1, rfl, HA, HK1, HO_3, HO_7, BK385, HB⟩ := hrel
    cases gk with
    | zero => exact absurd HA.out (by simp [impl_Leaves.l0])
    | succ k1 =>
      have H := HA.out
      clear HA
      simp only [impl_Leaves.l0] at H
      by_cases c7 : x9_1 < (t386.length : Int)
      · rw [if_pos c7] at H
        have c7b0 : decide (x9_1 < (t386.length : Int)) = true := decide_eq_true c7
        clear c7
        by_cases c8 : 0 ≤ x9_1
        · rw [if_pos c8] at H
          have c8b0 : decide (0 ≤ x9_1) = true := decide_eq_true c8
          clear c8
          by_cases c9 : x9_1 < (t386.length : Int)
          · rw [if_pos c9] at H
            have c9b0 : decide (x9_1 < (t386.length : Int)) = true := decide_eq_true c9
            clear c9
            by_cases c10 : 0 ≤ (rd t386 x9_1)
            · rw [if_pos c10] at H
              have c10b0 : decide (0 ≤ (rd t386 x9_1)) = true := decide_eq_true c10
              clear c10
              by_cases c11 : (rd t386 x9_1) < (l0_1.length : Int)
              · rw [if_pos c11] at H
                have c11b0 : decide ((rd t386 x9_1) < (l0_1.length : Int)) = true := decide_eq_true c11
                clear c11
                obtain ⟨bq12, hbq12⟩ : ∃ b_ : Bool, b_ = ((rd_T77 l0_1 (rd t386 x9_1)).f1.f0) := ⟨_, rfl⟩
                replace H : (if bq12 = true then (if x3_1.length < 17592186044416 then (impl_Leaves.l0 k1 (x3_1 ++ [rd t386 x9_1]) t386 (t386.length : Int) (wrap64 (x9_1 + 1)) a0_0 l0_1) else (none)) else (impl_Leaves.l0 k1 x3_1 t386 (t386.length : Int) (wrap64 (x9_1 + 1)) a0_0 l0_1)) = some r := by rw [← hbq12] at H; exact H
                have Nbq12 := Aside0.mk hbq12
                clear hbq12
                by_cases c13 : bq12 = true
                · subst c13
                  have H1 : (if x3_1.length < 17592186044416 then (impl_Leaves.l0 k1 (x3_1 ++ [rd t386 x9_1]) t386 (t386.length : Int) (wrap64 (x9_1 + 1)) a0_0 l0_1) else (none)) = some r := by rw [if_pos rfl] at H; exact H
                  clear H
                  have H := H1
                  clear H1
                  by_cases c14 : x3_1.length < 17592186044416
                  · rw [if_pos c14] at H
                    have LMc14 := Aside0.mk c14
                    clear c14
                    obtain ⟨y391, hy391⟩ : ∃ y_ : List Int, y_ = (x3_1 ++ [rd t386 x9_1]) := ⟨_, rfl⟩
                    replace H : (impl_Leaves.l0 k1 y391 t386 (t386.length : Int) (wrap64 (x9_1 + 1)) a0_0 l0_1) = some r := by first | (rw [hy391]; with_reducible exact H) | (have H2_ := (Option.bind_some _ _).symm.trans H; rw [hy391]; with_reducible exact H2_) | (have H2_ := (Option.bind_some _ _).symm.trans H; with_reducible exact H2_) | with_reducible exact H | (rw [hy391]; exact H) | exact H
                    have Ny391 := Aside0.mk hy391
                    clear hy391
                    have H' := Aside0.mk H
                    clear H
                    have p389 : 0 ≤ (x9_1 : Int) := of_decide_eq_true (by first | (with_reducible assumption) | assumption)
                    have q389 : x9_1 < (t386.length : Int) := of_decide_eq_true (by first | (with_reducible assumption) | assumption)
                    obtain ⟨ad389, e389, hx389_0⟩ := Kd.at_int (Kd.R_reads' HO_7.out).2.2 x9_1 p389 q389
                    cases e389
                    replace p389 := eq_true p389
                    replace q389 := eq_true q389
                    have hcz15_0 : wr.cell? ⟨gb385, 0, none⟩ = some (.int .i64 a0_0) := (blk_cell BK385.out 0).trans rfl
                    have hcz15_1 : wr.cell? ⟨gb385, 1, none⟩ = some (.slice A0_1 l0_1.length c0_1) := (blk_cell BK385.out 1).trans rfl
                    have hfz15_0 := blk_frozen BK385.out 0
                    have hfz15_1 := blk_frozen BK385.out 1
                    have p390 : 0 ≤ ((rd t386 x9_1) : Int) := of_decide_eq_true (by first | (with_reducible assumption) | assumption)
                    have q390 : (rd t386 x9_1) < (l0_1.length : Int) := of_decide_eq_true (by first | (with_reducible assumption) | assumption)
                    obtain ⟨ad390, A390_2, c390_2, e390, hx390_0, hx390_1, hx390_2, hl390_2, hi390_2⟩ := at_T77 HR0_1.out (rd t386 x9_1) p390 q390
                    (try rw [← Nbq12.out] at hx390_0)
                    (try rw [← Nbq12.out] at hx390_1)
                    cases e390
                    replace hx390_0 := (HB.out.cell (World.block_lt_of_cell? w _ hx390_0)).trans hx390_0
                    replace hx390_1 := (HB.out.cell (World.block_lt_of_cell? w _ hx390_1)).trans hx390_1
                    replace hx390_2 := (HB.out.cell (World.block_lt_of_cell? w _ hx390_2)).trans hx390_2
                    have HR390_2 := Aside0.mk hi390_2
                    have HC390_2 := Aside0.mk hl390_2
                    clear hi390_2 hl390_2
                    replace p390 := eq_true p390
                    replace q390 := eq_true q390
                    go_wp2_with (first | ((with_reducible refine gate_builtin (b := .append) (xs := #[.tmp 20, .tmp 22]) rfl ?_); at_builtin; refine Kd.R_append (Kd.int .i64) (w0 := w) w.heap.size rfl (.tmp 20) (.tmp 22) 54 3 (.int .i64 0) 8 rfl Try.underlying54 info3 rfl (by decide) (by omega) u3 x3_1 (rd t386 x9_1) [.int .i64 (rd t386 x9_1)] (fun k_ => some k_ ≠ (.slice (some ad389) t386.length co6 : Value).ownBlock) (fun _ => False) rfl rfl ?aP (fun _ hk => hk.elim) ?aF ?aO ?aB ?aS ?aL ?_; (case aP => exact rfl); (case aB => exact (by repeat (first | (with_reducible first | exact HB.out | apply below_alloc | apply pw_below_drewN | apply below_drew1 | refine below_set ?_ GE385.out) | exact HB.out))); (case aF => exact (fun k_ hk => Kd.fresh' (Kd.R_lt (by (with_reducible repeat (first | apply Kd.R_alloc | apply Kd.R_drewN | apply Kd.R_drew)); exact HO_7.out)) k_ hk)); (case aO => exact (by (with_reducible repeat (first | apply Kd.R_alloc | apply Kd.R_drewN | apply Kd.R_drew)); exact HO_3.out)); (case aS => exact (below_size (by repeat (first | (with_reducible first | exact HB.out | apply below_alloc | apply pw_below_drewN | apply below_drew1 | refine below_set ?_ GE385.out) | exact HB.out)))); (case aL => have := LMc14.out; omega); intro v392 w16 ho hb hg hat; rw [← Ny391.out] at ho; have n0_ := Aside0.mk (Kd.R_after (ok := (fun _ => True)) (by (with_reducible repeat (first | apply Kd.R_alloc | apply Kd.R_drewN | apply Kd.R_drew)); exact Kd.R_mono HO_7.out (fun _ hk => ⟨trivial, hk⟩)) hg hat); have n1_ := Aside0.mk (blk_grown (g := gb385) (o := .cells #[.int .i64 a0_0, .slice (some ad390) l0_1.length c0_1] 36 (0, 0)) (by (with_reducible repeat (first | refine blk_drewN ?_ _ | refine blk_drew ?_ | refine blk_alloc ?_ _)); exact BK385.out) hg (Kd.R_ne HO_3.out BK385.out (by decide))); have n2_ := Aside0.mk (hb); have n3_ := Aside0.mk (ho); clear HO_7; clear BK385; clear HB; clear HO_3; have HO_7 := n0_; have BK385 := n1_; have HB := n2_; have HO393 := n3_; clear n0_ n1_ n2_ n3_; clear ho hb hg hat))
                    go_roundg k1
                    case measure => have := HK1.out; omega
                    case rel => exact ⟨(y391), (wrap64 (x9_1 + 1)), (by first | rfl | (simp; done) | (simp [*]; done)), H', ⟨by have := HK1.out; omega⟩, ⟨by (with_reducible repeat (first | apply Kd.R_alloc | apply Kd.R_drewN | apply Kd.R_drew)); exact HO393.out⟩, ⟨by (with_reducible repeat (first | apply Kd.R_alloc | apply Kd.R_drewN | apply Kd.R_drew)); exact Kd.R_mono HO_7.out (fun _ hk => hk.2)⟩, ⟨by (with_reducible repeat (first | refine blk_drewN ?_ _ | refine blk_drew ?_ | refine blk_alloc ?_ _)); exact BK385.out⟩, ⟨by repeat (first | (with_reducible first | exact HB.out | apply below_alloc | apply pw_below_drewN | apply below_drew1 | refine below_set ?_ GE385.out) | exact HB.out)⟩⟩
                  · rw [if_neg c14] at H
                    exact absurd H (by simp)
                · replace c13 := Bool.eq_false_iff.mpr c13
                  subst c13
                  have H1 : (impl_Leaves.l0 k1 x3_1 t386 (t386.length : Int) (wrap64 (x9_1 + 1)) a0_0 l0_1) = some r := by rw [if_neg (show ¬ (false = true) by decide)] at H; exact H
                  clear H
                  have H := H1
                  clear H1
                  have H' := Aside0.mk H
                  clear H
                  have p389 : 0 ≤ (x9_1 : Int) := of_decide_eq_true (by first | (with_reducible assumption) | assumption)
                  have q389 : x9_1 < (t386.length : Int) := of_decide_eq_true (by first | (with_reducible assumption) | assumption)
                  obtain ⟨ad389, e389, hx389_0⟩ := Kd.at_int (Kd.R_reads' HO_7.out).2.2 x9_1 p389 q389
                  cases e389
                  replace p389 := eq_true p389
                  replace q389 := eq_true q389
                  have hcz17_0 : wr.cell? ⟨gb385, 0, none⟩ = some (.int .i64 a0_0) := (blk_cell BK385.out 0).trans rfl
                  have hcz17_1 : wr.cell? ⟨gb385, 1, none⟩ = some (.slice A0_1 l0_1.length c0_1) := (blk_cell BK385.out 1).trans rfl
                  have hfz17_0 := blk_frozen BK385.out 0
                  have hfz17_1 := blk_frozen BK385.out 1
                  have p390 : 0 ≤ ((rd t386 x9_1) : Int) := of_decide_eq_true (by first | (with_reducible assumption) | assumption)
                  have q390 : (rd t386 x9_1) < (l0_1.length : Int) := of_decide_eq_true (by first | (with_reducible assumption) | assumption)
                  obtain ⟨ad390, A390_2, c390_2, e390, hx390_0, hx390_1, hx390_2, hl390_2, hi390_2⟩ := at_T77 HR0_1.out (rd t386 x9_1) p390 q390
                  (try rw [← Nbq12.out] at hx390_0)
                  (try rw [← Nbq12.out] at hx390_1)
                  cases e390
                  replace hx390_0 := (HB.out.cell (World.block_lt_of_cell? w _ hx390_0)).trans hx390_0
                  replace hx390_1 := (HB.out.cell (World.block_lt_of_cell? w _ hx390_1)).trans hx390_1
                  replace hx390_2 := (HB.out.cell (World.block_lt_of_cell? w _ hx390_2)).trans hx390_2
                  have HR390_2 := Aside0.mk hi390_2
                  have HC390_2 := Aside0.mk hl390_2
                  clear hi390_2 hl390_2
                  replace p390 := eq_true p390
                  replace q390 := eq_true q390
                  go_wp2
                  go_roundg k1
                  case measure => have := HK1.out; omega
                  case rel => exact ⟨(x3_1), (wrap64 (x9_1 + 1)), (by first | rfl | (simp; done) | (simp [*]; done)), H', ⟨by have := HK1.out; omega⟩, ⟨by (with_reducible repeat (first | apply Kd.R_alloc | apply Kd.R_drewN | apply Kd.R_drew)); exact HO_3.out⟩, ⟨by (with_reducible repeat (first | apply Kd.R_alloc | apply Kd.R_drewN | apply Kd.R_drew)); exact HO_7.out⟩, ⟨by (with_reducible repeat (first | refine blk_drewN ?_ _ | refine blk_drew ?_ | refine blk_alloc ?_ _)); exact BK385.out⟩, ⟨by repeat (first | (with_reducible first | exact HB.out | apply below_alloc | apply pw_below_drewN | apply below_drew1 | refine below_set ?_ GE385.out) | exact HB.out)⟩⟩
              · rw [if_neg c11] at H
                exact absurd H (by simp)
            · rw [if_neg c10] at H
              exact absurd H (by simp)
          · rw [if_neg c9] at H
            exact absurd H (by simp)
        · rw [if_neg c8] at H
          exact absurd H (by simp)
      · rw [if_neg c7] at H
        have c7b0 : decide (x9_1 < (t386.length : Int)) = false := decide_eq_false c7
        clear c7
        obtain rfl := Option.some.inj H
        go_wp2
        go_ret
        exact ⟨_, by first | rfl | (simp [errW_none, errW_some] <;> rfl) | (simp [*, errW_none, errW_some] <;> rfl), by (with_reducible repeat (first | apply Kd.R_alloc | apply Kd.R_drewN | apply Kd.R_drew)); exact Kd.R_mono HO_3.out (fun _ hk => trivial), by repeat (first | (with_reducible first | exact HB.out | apply below_alloc | apply pw_below_drewN | apply below_drew1 | refine below_set ?_ GE385.out) | exact HB.out)⟩

end Go.Proofs.Ythenmlaleobapaa.All

/- Plain law of the printed lists of leaves and of items of a book, the program's and the reference's. No condition. -/
namespace Go.Proofs.Ythenmlaleobapaa.Pure
open Go.RowKit Go.Proofs.Ythenmlaleobapaa.All Go.Proofs.YthenmlaleobapaaW.PrintWords Go.Proofs.YthenmlaleobapaaW.PrintLast
set_option linter.unusedVariables false

theorem rdInt (r : List Int) (x : Nat) (h : x < r.length) : rd r (x : Int) = r[x] := by
  show r.getD x 0 = _
  rw [List.getD_eq_getElem?_getD, List.getElem?_eq_getElem h]
  rfl
theorem take_snoc {α : Type} (l : List α) (x : Nat) (h : x < l.length) : l.take (x + 1) = l.take x ++ [l[x]] := by
  rw [List.take_add_one, List.getElem?_eq_getElem h]
  rfl
theorem rdEn_at (l : List En) (i : Nat) (h : i < l.length) : rd_T82 l (i : Int) = l[i] := by
  show l.getD i z82 = _
  rw [List.getD_eq_getElem?_getD, List.getElem?_eq_getElem h]
  rfl
def itOf (e : En) : It := ⟨e.f0, ⟨e.f1.f0, e.f1.f1, e.f1.f2, e.f1.f3⟩⟩
def itemsOf (b : Bool) (es : List En) : List It := if b = true then es.map itOf else []
theorem itemsOf_len (b : Bool) (es : List En) : (itemsOf b es).length ≤ es.length := by
  unfold itemsOf
  split <;> simp
theorem spec_itemsOf (b : Bool) (es : List En) (he : es.length ≤ 1048576) : Evn (fun k => spec_ItemsOf.f k b es) (itemsOf b es) := by
  unfold spec_ItemsOf.f
  cases b with
  | false =>
    by_cases h : (0 : Int) < es.length
    · exact Evn.step (fun k => by rw [spec_ItemsOf.l0, if_pos h, if_neg (by decide)]; rfl) (Evn.ret _)
    · exact Evn.step (fun k => by rw [spec_ItemsOf.l0, if_neg h]; rfl) (Evn.ret _)
  | true =>
    have key : ∀ d x : Nat, x + d = es.length → Evn (fun k => spec_ItemsOf.l0 k ((es.take x).map itOf) (x : Int) true es) (es.map itOf) := by
      intro d
      induction d with
      | zero =>
        intro x hx
        obtain rfl : x = es.length := by omega
        rw [List.take_length]
        exact Evn.step (fun k => by rw [spec_ItemsOf.l0, if_neg (by omega)]) (Evn.ret _)
      | succ d ih =>
        intro x hx
        have h := ih (x + 1) (by omega)
        rw [take_snoc es x (by omega), List.map_append] at h
        refine Evn.step (fun k => ?_) h
        have hw : wrap64 ((x : Int) + 1) = ((x + 1 : Nat) : Int) := by
          unfold wrap64
          omega
        rw [spec_ItemsOf.l0, if_pos (by omega), if_pos rfl, if_pos (by omega), if_pos (by rw [List.length_map, List.length_take]; omega), hw, rdEn_at es x (by omega)]
        rfl
    exact key es.length 0 (by omega)
theorem impl_itemsOf (b : Bool) (es : List En) (he : es.length ≤ 1048576) : Evn (fun k => impl_ItemsOf.f k b es) (itemsOf b es) := by
  unfold impl_ItemsOf.f
  cases b with
  | false => exact Evn.ret _
  | true =>
    have key : ∀ d x : Nat, x + d = es.length → Evn (fun k => impl_ItemsOf.l0 k ((es.take x).map itOf) es (es.length : Int) (x : Int)) (es.map itOf) := by
      intro d
      induction d with
      | zero =>
        intro x hx
        obtain rfl : x = es.length := by omega
        rw [List.take_length]
        exact Evn.step (fun k => by rw [impl_ItemsOf.l0, if_neg (by omega)]) (Evn.ret _)
      | succ d ih =>
        intro x hx
        have h := ih (x + 1) (by omega)
        rw [take_snoc es x (by omega), List.map_append] at h
        refine Evn.step (fun k => ?_) h
        have hw : wrap64 ((x : Int) + 1) = ((x + 1 : Nat) : Int) := by
          unfold wrap64
          omega
        rw [impl_ItemsOf.l0, if_pos (by omega), if_pos (by omega), if_pos (by omega), if_pos (by rw [List.length_map, List.length_take]; omega), hw, rdEn_at es x (by omega)]
        rfl
    exact Evn.pos rfl (key es.length 0 (by omega))

def leafB (l : List Pg) (i : Int) : Bool := (rd_T77 l i).f1.f0
def pgItems (l : List Pg) (i : Int) : List It := itemsOf (rd_T77 l i).f1.f0 (rd_T77 l i).f1.f1
theorem leaves_items (l : List Pg) (r : List Int) : (r.filter (leafB l)).flatMap (pgItems l) = r.flatMap (pgItems l) := by
  induction r with
  | nil => rfl
  | cons i r ih =>
    by_cases h : leafB l i = true
    · rw [List.filter_cons_of_pos h, List.flatMap_cons, List.flatMap_cons, ih]
    · rw [List.filter_cons_of_neg h, List.flatMap_cons, ih]
      have : pgItems l i = [] := by
        unfold pgItems itemsOf
        exact if_neg h
      rw [this, List.nil_append]
theorem spec_leaves (a : Int) (l : List Pg) (r : List Int) (hw : Evn (fun k => walkM k l a []) r) (ho : ∀ i ∈ r, pgOk l i) (hr : r.length ≤ 1048576) : Evn (fun k => spec_Leaves.f k a l) (r.filter (leafB l)) := by
  have key : ∀ d x : Nat, x + d = r.length → Evn (fun k => spec_Leaves.l0 k ((r.take x).filter (leafB l)) r (x : Int) a l) (r.filter (leafB l)) := by
    intro d
    induction d with
    | zero =>
      intro x hx
      obtain rfl : x = r.length := by omega
      rw [List.take_length]
      exact Evn.step (fun k => by rw [spec_Leaves.l0, if_neg (by omega)]) (Evn.ret _)
    | succ d ih =>
      intro x hx
      have h := ih (x + 1) (by omega)
      rw [take_snoc r x (by omega), List.filter_append] at h
      have hg := ho _ (List.getElem_mem (show x < r.length by omega))
      have hlen : ((r.take x).filter (leafB l)).length ≤ x := Nat.le_trans (List.length_filter_le _ _) (by rw [List.length_take]; omega)
      refine Evn.step (fun k => ?_) h
      have hw : wrap64 ((x : Int) + 1) = ((x + 1 : Nat) : Int) := by
        unfold wrap64
        omega
      rw [spec_Leaves.l0, if_pos (by omega), if_pos (by omega), rdInt r x (by omega), if_pos hg.1, if_pos hg.2.1, hw]
      by_cases hf : leafB l r[x] = true
      · rw [List.filter_cons_of_pos hf, List.filter_nil]
        unfold leafB at hf
        rw [if_pos hf, if_pos (by omega)]
      · rw [List.filter_cons_of_neg hf, List.filter_nil, List.append_nil]
        unfold leafB at hf
        rw [if_neg hf]
  exact Evn.bind hw (key r.length 0 (by omega))
theorem pgItems_len (l : List Pg) (hp : ∀ p ∈ l, p.f1.f1.length ≤ 1048576) (i : Int) (hi : pgOk l i) : (rd_T77 l i).f1.f1.length ≤ 1048576 := by
  obtain ⟨m, rfl⟩ : ∃ m : Nat, i = (m : Int) := ⟨i.toNat, by have := hi.1; omega⟩
  have hm : m < l.length := by have := hi.2.1; omega
  rw [rdPg_at l m hm]
  exact hp _ (List.getElem_mem hm)
theorem flat_len (l : List Pg) (hp : ∀ p ∈ l, p.f1.f1.length ≤ 1048576) : ∀ r : List Int, (∀ i ∈ r, pgOk l i) → (r.flatMap (pgItems l)).length ≤ r.length * 1048576
  | [], _ => Nat.zero_le _
  | i :: r, ho => by
    have h1 := flat_len l hp r (fun j hj => ho j (List.mem_cons_of_mem _ hj))
    have h2 := pgItems_len l hp i (ho i (List.mem_cons_self ..))
    have h3 := itemsOf_len (rd_T77 l i).f1.f0 (rd_T77 l i).f1.f1
    rw [List.flatMap_cons, List.length_append, List.length_cons]
    have h4 : (pgItems l i).length ≤ 1048576 := Nat.le_trans h3 h2
    omega
theorem spec_all (a : Int) (l : List Pg) (r : List Int) (hw : Evn (fun k => walkM k l a []) r) (hp : ∀ p ∈ l, p.f1.f1.length ≤ 1048576) (ho : ∀ i ∈ r, pgOk l i) (hr : r.length ≤ 1048576) : Evn (fun k => spec_All.f k a l) (r.flatMap (pgItems l)) := by
  refine Evn.bind (spec_leaves a l r hw ho hr) ?_
  rw [← leaves_items]
  have hs : ∀ i ∈ r.filter (leafB l), pgOk l i := fun i hi => ho i (List.mem_filter.1 hi).1
  have hs2 : (r.filter (leafB l)).length ≤ 1048576 := Nat.le_trans (List.length_filter_le _ _) hr
  generalize r.filter (leafB l) = q at hs hs2
  have key : ∀ d x : Nat, x + d = q.length → Evn (fun k => spec_All.l0 k ((q.take x).flatMap (pgItems l)) q (x : Int) a l) (q.flatMap (pgItems l)) := by
    intro d
    induction d with
    | zero =>
      intro x hx
      obtain rfl : x = q.length := by omega
      rw [List.take_length]
      exact Evn.step (fun k => by rw [spec_All.l0, if_neg (by omega)]) (Evn.ret _)
    | succ d ih =>
      intro x hx
      have h := ih (x + 1) (by omega)
      rw [take_snoc q x (by omega), List.flatMap_append, List.flatMap_singleton] at h
      have hg := hs _ (List.getElem_mem (show x < q.length by omega))
      have hl1 := flat_len l hp (q.take x) (fun i hi => hs i (List.mem_of_mem_take hi))
      rw [List.length_take] at hl1
      have hl2 := pgItems_len l hp _ hg
      have hl3 := itemsOf_len (rd_T77 l q[x]).f1.f0 (rd_T77 l q[x]).f1.f1
      have hw : wrap64 ((x : Int) + 1) = ((x + 1 : Nat) : Int) := by
        unfold wrap64
        omega
      have s1 : ∀ k, spec_All.l0 (k + 1) ((q.take x).flatMap (pgItems l)) q (x : Int) a l = (spec_ItemsOf.f k (rd_T77 l q[x]).f1.f0 (rd_T77 l q[x]).f1.f1).bind fun t => (if ((q.take x).flatMap (pgItems l)).length + t.length < 3518437208883 then (spec_All.l0 k ((q.take x).flatMap (pgItems l) ++ t) q ((x + 1 : Nat) : Int) a l) else none) := by
        intro k
        rw [spec_All.l0, if_pos (by omega), if_pos (by omega), rdInt q x (by omega), if_pos hg.1, if_pos hg.2.1, hw]
      refine Evn.step s1 (Evn.bind (spec_itemsOf _ _ hl2) (Evn.pos (by omega) h))
  exact key q.length 0 (by omega)
theorem impl_all (a : Int) (l : List Pg) (r : List Int) (hw : Evn (fun k => walkM k l a []) r) (hp : ∀ p ∈ l, p.f1.f1.length ≤ 1048576) (ho : ∀ i ∈ r, pgOk l i) (hr : r.length ≤ 1048576) : Evn (fun k => impl_All.f k a l) (r.flatMap (pgItems l)) := by
  unfold impl_All.f
  refine Evn.bind (a := r.flatMap (pgItems l)) ?_ (Evn.ret _)
  unfold impl_itemsFrom.f
  refine Evn.bind (a := r) hw ?_
  have key : ∀ d x : Nat, x + d = r.length → Evn (fun k => impl_itemsFrom.l0 k ((r.take x).flatMap (pgItems l)) r (r.length : Int) (x : Int) a l) (r.flatMap (pgItems l)) := by
    intro d
    induction d with
    | zero =>
      intro x hx
      obtain rfl : x = r.length := by omega
      rw [List.take_length]
      exact Evn.step (fun k => by rw [impl_itemsFrom.l0, if_neg (by omega)]) (Evn.ret _)
    | succ d ih =>
      intro x hx
      have h := ih (x + 1) (by omega)
      rw [take_snoc r x (by omega), List.flatMap_append, List.flatMap_singleton] at h
      have hg := ho _ (List.getElem_mem (show x < r.length by omega))
      have hl1 := flat_len l hp (r.take x) (fun i hi => ho i (List.mem_of_mem_take hi))
      rw [List.length_take] at hl1
      have hl2 := pgItems_len l hp _ hg
      have hl3 := itemsOf_len (rd_T77 l r[x]).f1.f0 (rd_T77 l r[x]).f1.f1
      have hw : wrap64 ((x : Int) + 1) = ((x + 1 : Nat) : Int) := by
        unfold wrap64
        omega
      have s1 : ∀ k, impl_itemsFrom.l0 (k + 1) ((r.take x).flatMap (pgItems l)) r (r.length : Int) (x : Int) a l = (impl_ItemsOf.f k (rd_T77 l r[x]).f1.f0 (rd_T77 l r[x]).f1.f1).bind fun t => (if ((r.take x).flatMap (pgItems l)).length + t.length < 3518437208883 then (impl_itemsFrom.l0 k ((r.take x).flatMap (pgItems l) ++ t) r (r.length : Int) ((x + 1 : Nat) : Int) a l) else none) := by
        intro k
        rw [impl_itemsFrom.l0, if_pos (by omega), if_pos (by omega), if_pos (by omega), rdInt r x (by omega), if_pos hg.1, if_pos hg.2.1, hw]
      refine Evn.step s1 (Evn.bind (impl_itemsOf _ _ hl2) (Evn.pos (by omega) h))
  exact key r.length 0 (by omega)
theorem impl_leaves (a : Int) (l : List Pg) (r : List Int) (hw : Evn (fun k => walkM k l a []) r) (ho : ∀ i ∈ r, pgOk l i) (hr : r.length ≤ 1048576) : Evn (fun k => impl_Leaves.f k a l) (r.filter (leafB l)) := by
  have key : ∀ d x : Nat, x + d = r.length → Evn (fun k => impl_Leaves.l0 k ((r.take x).filter (leafB l)) r (r.length : Int) (x : Int) a l) (r.filter (leafB l)) := by
    intro d
    induction d with
    | zero =>
      intro x hx
      obtain rfl : x = r.length := by omega
      rw [List.take_length]
      exact Evn.step (fun k => by rw [impl_Leaves.l0, if_neg (by omega)]) (Evn.ret _)
    | succ d ih =>
      intro x hx
      have h := ih (x + 1) (by omega)
      rw [take_snoc r x (by omega), List.filter_append] at h
      have hg := ho _ (List.getElem_mem (show x < r.length by omega))
      have hlen : ((r.take x).filter (leafB l)).length ≤ x := Nat.le_trans (List.length_filter_le _ _) (by rw [List.length_take]; omega)
      refine Evn.step (fun k => ?_) h
      have hw : wrap64 ((x : Int) + 1) = ((x + 1 : Nat) : Int) := by
        unfold wrap64
        omega
      rw [impl_Leaves.l0, if_pos (by omega), if_pos (by omega), if_pos (by omega), rdInt r x (by omega), if_pos hg.1, if_pos hg.2.1, hw]
      by_cases hf : leafB l r[x] = true
      · rw [List.filter_cons_of_pos hf, List.filter_nil]
        unfold leafB at hf
        rw [if_pos hf, if_pos (by omega)]
      · rw [List.filter_cons_of_neg hf, List.filter_nil, List.append_nil]
        unfold leafB at hf
        rw [if_neg hf]
  exact Evn.bind (Evn.bind (a := r) hw (Evn.ret _)) (key r.length 0 (by omega))
theorem leaves_both (a : Int) (l : List Pg) (hl : l.length ≤ 1048576) (hp : ∀ p ∈ l, p.f1.f1.length ≤ 1048576) : ∃ r : List Int, r.length ≤ 1048576 ∧ Evn (fun k => spec_Leaves.f k a l) r ∧ Evn (fun k => impl_Leaves.f k a l) r := by
  obtain ⟨r, hw, ho⟩ := reach_ends l hl hp a
  have hrl := ho.len
  exact ⟨_, Nat.le_trans (List.length_filter_le _ _) (by omega), spec_leaves a l r hw ho.2 (by omega), impl_leaves a l r hw ho.2 (by omega)⟩
theorem all_both (a : Int) (l : List Pg) (hl : l.length ≤ 1048576) (hp : ∀ p ∈ l, p.f1.f1.length ≤ 1048576) : ∃ r : List It, r.length ≤ 1099511627776 ∧ Evn (fun k => spec_All.f k a l) r ∧ Evn (fun k => impl_All.f k a l) r := by
  obtain ⟨r, hw, ho⟩ := reach_ends l hl hp a
  have hrl := ho.len
  have := flat_len l hp r ho.2
  exact ⟨r.flatMap (pgItems l), by omega, spec_all a l r hw hp ho.2 (by omega), impl_all a l r hw hp ho.2 (by omega)⟩

end Go.Proofs.Ythenmlaleobapaa.Pure

/- The program's All returns what the reference's returns, for all arguments. No condition. -/
namespace Go.Proofs.Ythenmlaleobapaa.Pure
open Go.RowKit Go.Proofs.Ythenmlaleobapaa.All Go.Proofs.Ythenmlaleobapaa.Op
set_option linter.unusedVariables false

theorem FnExactAll (y0 : Int × List LPg) (hg0 : good31 y0) : ∃ k, laws_FnExactAll.f k y0.1 y0.2 = some true := by
  obtain ⟨a, l⟩ := y0
  have hg : l.length ≤ 9223372036854775807 ∧ ∀ p ∈ l, p.f1.f1.length ≤ 9223372036854775807 := ⟨hg0.2.1, fun p hp => (hg0.2.2 p hp).2.2.1⟩
  apply Evn.some_k
  unfold laws_FnExactAll.f
  refine Evn.bind (szBook_f a l 1048576 (by omega) hg.1 hg.2) ?_
  by_cases h : (1048576 : Int) < l.length + heap l
  · rw [if_pos h]
    exact Evn.ret _
  · rw [if_neg h]
    refine Evn.neg (by omega) ?_
    have hs : Small l := Small.of l (by omega)
    have hm := hs.made
    have hc := bookCost_small _ hm.1 hm.2
    have hn := bookCost_nn (l.map toPg)
    obtain ⟨r, hr, h1, h2⟩ := all_both a (l.map toPg) hm.1 hm.2
    have hB := toBook_f a l hs.len hs.ent
    have hq := eqItemS_same r (by unfold big; omega)
    have hM := markBook_f a (l.map toPg) 1 (by decide) (by omega) (by omega)
    have hI := markItemS_f r 1 (by decide) (by omega)
    have hH := heldItemS_f r.length 1 (by decide) (by omega)
    refine Evn.bind hB (Evn.bind (a := r) h1 (Evn.bind hB (Evn.bind (a := r) h2 (Evn.bind hq (Evn.pos rfl ?_)))))
    refine Evn.bind hB (Evn.bind (eqBook_same a _ (big_of hm.1) fun p hp => big_of (hm.2 p hp)) (Evn.pos rfl ?_))
    refine Evn.bind hM (Evn.bind hq (Evn.pos (by omega) (Evn.pos rfl ?_)))
    refine Evn.bind hI (Evn.bind hH (Evn.pos (by omega) (Evn.pos rfl ?_)))
    exact Evn.bind hB (Evn.bind (a := r) h2 (Evn.bind hq (Evn.pos rfl (Evn.bind hH (Evn.pos (by omega) (Evn.pos rfl (Evn.ret _)))))))

end Go.Proofs.Ythenmlaleobapaa.Pure
