/- The texts on which the row FnExactEven rests, part 5: contracts of the functions that it reaches and plain laws of what they compute. No condition. -/
import Derived.Test.YtngjaajcdbodeaaMgFnExactEvenW1
import Derived.Deep.Slices
import Derived.ChangeSame
import Derived.ChangeArms
import Derived.KernelRfl
import Derived.Test.YtngjaajcdbodeaaMgFnExactEven1
import Derived.Test.YtngjaajcdbodeaaMgFnExactEven2
import Derived.Test.YtngjaajcdbodeaaMgFnExactEven3
import Derived.Test.YtngjaajcdbodeaaMgFnExactEven4
namespace Go.Proofs.Ytngjaajcdbodeaa.All
open Go.RowKit Go.Proofs.YtngjaajcdbodeaaW.PrintWords Go.Proofs.YtngjaajcdbodeaaW.PrintLast Go.Proofs.YtngjaajcdbodeaaW.PrintMore
attribute [local go_sem] max2_int min2_int max_two min_two max_three min_three max_four min_four   -- for this text's walks alone
set_option linter.unusedVariables false
set_option linter.unusedSimpArgs false

/-! ### spec_l13Far: function 97 -/
mutual
def spec_l13Far.j0 : Nat → Int → Int → Bool → Int → List (S90) → Option (List Int)
  | 0, _, _, _, _, _ => none
  | k + 1, x1, x2, x29, x773000, x773001 => if x29 = true then (some (([] : List Int))) else (if 0 ≤ x1 then (if x1 < (x773001.length : Int) then (if (rd_T90 x773001 x1).f1.f0 = true then (some (([x2] : List Int))) else (spec_l13Far.l0 k x2 (([] : List Int)) 0 x773000 x773001 ((rd_T90 x773001 x1).f1.f0) ((rd_T90 x773001 x1).f1.f1))) else (none)) else (none))
def spec_l13Far.l0 : Nat → Int → List Int → Int → Int → List (S90) → Bool → List (S103) → Option (List Int)
  | 0, _, _, _, _, _, _, _ => none
  | k + 1, x2, x8, x9, x773000, x773001, x780000, x780001 => if x9 < (x780001.length : Int) then (if 0 ≤ x9 then ((spec_l13Far.f k x773000 x773001 ((rd_T103 x780001 x9).f0) (wrap64 (x2 + 1))).bind fun t787 => (if x8.length + t787.length < 17592186044416 then (spec_l13Far.l0 k x2 (x8 ++ t787) (wrap64 (x9 + 1)) x773000 x773001 x780000 x780001) else (none))) else (none)) else (some x8)
def spec_l13Far.f : Nat → Int → List (S90) → Int → Int → Option (List Int)
  | 0, _, _, _, _ => none
  | k + 1, a0_0, l0_1, a1, a2 => if a2 > 12 then (spec_l13Far.j0 k a1 a2 true a0_0 l0_1) else ((spec_l1In.f a1 0 (wrap64 ((l0_1.length : Int) - 1))).bind fun t773 => (if t773 = true then (if 0 ≤ a1 then (if a1 < (l0_1.length : Int) then (spec_l13Far.j0 k a1 a2 (!((rd_T90 l0_1 a1).f0)) a0_0 l0_1) else (none)) else (none)) else (spec_l13Far.j0 k a1 a2 true a0_0 l0_1)))
end
theorem spec_l13Far.mono_l : ∀ k, (∀ y0 y1 y2 y3, LeO (spec_l13Far.f k y0 y1 y2 y3) (spec_l13Far.f (k + 1) y0 y1 y2 y3)) ∧ (∀ y0 y1 y2 y3 y4, LeO (spec_l13Far.j0 k y0 y1 y2 y3 y4) (spec_l13Far.j0 (k + 1) y0 y1 y2 y3 y4)) ∧ (∀ y0 y1 y2 y3 y4 y5 y6, LeO (spec_l13Far.l0 k y0 y1 y2 y3 y4 y5 y6) (spec_l13Far.l0 (k + 1) y0 y1 y2 y3 y4 y5 y6))
  | 0 => ⟨fun _ _ _ _ r h => by simp [spec_l13Far.f] at h, fun _ _ _ _ _ r h => by simp [spec_l13Far.j0] at h, fun _ _ _ _ _ _ _ r h => by simp [spec_l13Far.l0] at h⟩
  | k + 1 => by
    obtain ⟨ih0, ih1, ih2⟩ := spec_l13Far.mono_l k
    refine ⟨?_, ?_, ?_⟩
    · intro y0 y1 y2 y3
      unfold spec_l13Far.f
      repeat' first
      | (with_reducible exact ih0 _ _ _ _)
      | (with_reducible exact ih1 _ _ _ _ _)
      | (with_reducible exact ih2 _ _ _ _ _ _ _)
      | (with_reducible exact LeO.refl _)
      | (with_reducible exact LeO.none _)
      | (with_reducible refine LeO.ite ?_ ?_)
      | (with_reducible refine LeO.bind ?_ (fun _ => ?_))
      | exact ih0 _ _ _ _
      | exact ih1 _ _ _ _ _
      | exact ih2 _ _ _ _ _ _ _
      | exact LeO.none _
      | refine LeO.ite ?_ ?_
      | refine LeO.bind ?_ (fun _ => ?_)
    · intro y0 y1 y2 y3 y4
      unfold spec_l13Far.j0
      repeat' first
      | (with_reducible exact ih0 _ _ _ _)
      | (with_reducible exact ih1 _ _ _ _ _)
      | (with_reducible exact ih2 _ _ _ _ _ _ _)
      | (with_reducible exact LeO.refl _)
      | (with_reducible exact LeO.none _)
      | (with_reducible refine LeO.ite ?_ ?_)
      | (with_reducible refine LeO.bind ?_ (fun _ => ?_))
      | exact ih0 _ _ _ _
      | exact ih1 _ _ _ _ _
      | exact ih2 _ _ _ _ _ _ _
      | exact LeO.none _
      | refine LeO.ite ?_ ?_
      | refine LeO.bind ?_ (fun _ => ?_)
    · intro y0 y1 y2 y3 y4 y5 y6
      unfold spec_l13Far.l0
      repeat' first
      | (with_reducible exact ih0 _ _ _ _)
      | (with_reducible exact ih1 _ _ _ _ _)
      | (with_reducible exact ih2 _ _ _ _ _ _ _)
      | (with_reducible exact LeO.refl _)
      | (with_reducible exact LeO.none _)
      | (with_reducible refine LeO.ite ?_ ?_)
      | (with_reducible refine LeO.bind ?_ (fun _ => ?_))
      | exact ih0 _ _ _ _
      | exact ih1 _ _ _ _ _
      | exact ih2 _ _ _ _ _ _ _
      | exact LeO.none _
      | refine LeO.ite ?_ ?_
      | refine LeO.bind ?_ (fun _ => ?_)
theorem spec_l13Far.mono : ∀ a0 a1 a2 a3 k, LeO (spec_l13Far.f k a0 a1 a2 a3) (spec_l13Far.f (k + 1) a0 a1 a2 a3) := by
  intro a0 a1 a2 a3 k
  obtain ⟨ih0, ih1, ih2⟩ := spec_l13Far.mono_l k
  exact ih0 a0 a1 a2 a3
def spec_l13Far.T10 : Bool × List (List Nat × List Nat) := (true, [([], []), ([], []), ([], []), ([2], [2]), ([], []), ([3, 4], [3, 4]), ([5], [5]), ([6], [6]), ([], []), ([8], [8]), ([1, 7, 9], [1, 7, 9]), ([0, 10, 10], [0, 10]), ([11, 11, 0, 1, 2, 3, 4, 5, 6, 7, 8, 9, 10, 11], [0, 11])])
def spec_l13Far.B10 : List Nat := [0, 0, 0, 4, 0, 28, 60, 124, 0, 256, 1022, 2047, 4095]
theorem spec_l13Far.tab10 : rtab .any (opsOf Try.f97 10) = spec_l13Far.T10 := by kernel_rfl
theorem spec_l13Far.bits10 : waitsOk spec_l13Far.T10.2 spec_l13Far.B10 = true := by kernel_rfl
set_option maxHeartbeats 8000000 in
set_option maxRecDepth 100000 in
theorem spec_l13Far.calls (k : Nat) : ∀ (a0_0 : Int) (A0_1 : Option Addr) (c0_1 : Nat) (l0_1 : List (S90)) (a1 : Int) (a2 : Int) (r : List Int) (w : World) (hr0_1 : Kd.C k90 w A0_1 l0_1.length l0_1) (hc0_1 : l0_1.length ≤ c0_1) (h : spec_l13Far.f k a0_0 l0_1 a1 a2 = some r),
    Calls Try.prog 97 #[.agg #[.int .i64 a0_0, .slice A0_1 l0_1.length c0_1], .int .i64 a1, .int .i64 a2] w fun e w' => ∃ v0_ : Value, e = .returned (v0_) ∧ Kd.R (Kd.int .i64) 3 w' w.heap.size (fun _ => True) v0_ r ∧ Below w.heap.size w w' := by
  induction k using Nat.strongRecOn with
  | _ k ih =>
  intro a0_0 A0_1 c0_1 l0_1 a1 a2 r w hr0_1 hc0_1 h
  cases k with
  | zero => exact absurd h (by simp [spec_l13Far.f])
  | succ k =>
  simp only [spec_l13Far.f] at h
  have hu49 := Try.underlying49
  have hu54 := Try.underlying54
  have HR0_1 := Aside0.mk hr0_1
  have HC0_1 := Aside0.mk hc0_1
  clear hr0_1 hc0_1
  have HB := Aside0.mk (Below.refl w.heap.size w)
  have H : (if a2 > 12 then (spec_l13Far.j0 k a1 a2 true a0_0 l0_1) else ((spec_l1In.f a1 0 (wrap64 ((l0_1.length : Int) - 1))).bind fun t773 => (if t773 = true then (if 0 ≤ a1 then (if a1 < (l0_1.length : Int) then (spec_l13Far.j0 k a1 a2 (!((rd_T90 l0_1 a1).f0)) a0_0 l0_1) else (none)) else (none)) else (spec_l13Far.j0 k a1 a2 true a0_0 l0_1)))) = some r := h
  clear h
  have HC4 := Aside0.mk H
  clear H
  go_enter Try.func97, Try.ntmps97
  go_upto_region 1 with (first | ((with_reducible refine gate_dst (N := 3) rfl ?_); (try (refine gate_guard (by rfl) ?_; dsimp only)); refine box_event ?hg (N := 3) ?hd (cs := #[.int .i64 a0_0, .slice A0_1 l0_1.length c0_1]) (t := 49) ?hr ?_; (case hd => rfl); (case hg => rfl); (case hr => first | (go_simp; done) | (go_simp; rfl)); intro gb772 hg w5 hbox hb; have n0_ := Aside0.mk (below_step (by repeat (first | (with_reducible first | exact HB.out | apply below_alloc | apply pw_below_drewN | apply below_drew1) | exact HB.out)) hb); have n1_ := Aside0.mk (hbox); have n2_ := Aside0.mk ((by rw [hg]; exact (below_size (by repeat (first | (with_reducible first | exact HB.out | apply below_alloc | apply pw_below_drewN | apply below_drew1) | exact HB.out))) : w.heap.size ≤ gb772)); have n3_ := Aside0.mk ((by rw [hg]; exact (below_size (by repeat (first | (with_reducible first | exact HB.out | apply below_alloc | apply pw_below_drewN | apply below_drew1) | exact HB.out))) : w.heap.size ≤ gb772)); clear HB; have HB := n0_; have BK772 := n1_; have GW772 := n2_; have GE772 := n3_; clear n0_ n1_ n2_ n3_; clear hb hbox hg))
  (try simp only [Act.put, List.setIfInBounds_toArray, List.set_cons_zero, List.set_cons_succ])
  go_cut [29] (fun v29 wc => ∃ (kq : Nat) (x29_3 : Bool), v29 = .bool x29_3 ∧ Aside0 (spec_l13Far.j0 kq a1 a2 x29_3 a0_0 l0_1 = some r) ∧ Aside0 (kq ≤ k) ∧ Aside0 (wc.heap[gb772]? = some (.cells #[.int .i64 a0_0, (.slice A0_1 l0_1.length c0_1)] 49 (0, 0))) ∧ Aside0 (Below w.heap.size w wc))
  case first =>
    have H := HC4.out
    clear HC4
    by_cases c6 : a2 > 12
    · rw [if_pos c6] at H
      have c6b0 : decide (12 < a2) = true := decide_eq_true c6
      clear c6
      (first | rw [c6b0] | (simp only [i64_w, i32_w]; rw [c6b0]) | skip)
      have H' := Aside0.mk H
      clear H
      go_wp2
      go_meet
      case rel => exact ⟨_, (true), (by first | rfl | (simp; done) | (simp [*]; done)), H', ⟨by first | omega | exact Nat.le_refl _⟩, ⟨by (with_reducible repeat (first | refine blk_drewN ?_ _ | refine blk_drew ?_ | refine blk_alloc ?_ _)); exact BK772.out⟩, ⟨by repeat (first | (with_reducible first | exact HB.out | apply below_alloc | apply pw_below_drewN | apply below_drew1 | refine below_set ?_ GE772.out) | exact HB.out)⟩⟩
    · rw [if_neg c6] at H
      have c6b0 : decide (12 < a2) = false := decide_eq_false c6
      clear c6
      (first | rw [c6b0] | (simp only [i64_w, i32_w]; rw [c6b0]) | skip)
      replace H := Option.bind_eq_some_iff.mp H
      obtain ⟨t773, A70, H⟩ := H
      replace H : (if t773 = true then (if 0 ≤ a1 then (if a1 < (l0_1.length : Int) then (spec_l13Far.j0 k a1 a2 (!((rd_T90 l0_1 a1).f0)) a0_0 l0_1) else (none)) else (none)) else (spec_l13Far.j0 k a1 a2 true a0_0 l0_1)) = some r := H
      have A7 := Aside0.mk A70
      clear A70
      by_cases c8 : t773 = true
      · subst c8
        have H1 : (if 0 ≤ a1 then (if a1 < (l0_1.length : Int) then (spec_l13Far.j0 k a1 a2 (!((rd_T90 l0_1 a1).f0)) a0_0 l0_1) else (none)) else (none)) = some r := by rw [if_pos rfl] at H; exact H
        clear H
        have H := H1
        clear H1
        by_cases c9 : 0 ≤ a1
        · rw [if_pos c9] at H
          have c9b0 : decide (0 ≤ a1) = true := decide_eq_true c9
          clear c9
          by_cases c10 : a1 < (l0_1.length : Int)
          · rw [if_pos c10] at H
            have c10b0 : decide (a1 < (l0_1.length : Int)) = true := decide_eq_true c10
            clear c10
            have H' := Aside0.mk H
            clear H
            have hcz11_0 : w5.cell? ⟨gb772, 0, none⟩ = some (.int .i64 a0_0) := (blk_cell BK772.out 0).trans rfl
            have hcz11_1 : w5.cell? ⟨gb772, 1, none⟩ = some (.slice A0_1 l0_1.length c0_1) := (blk_cell BK772.out 1).trans rfl
            have hfz11_0 := blk_frozen BK772.out 0
            have hfz11_1 := blk_frozen BK772.out 1
            go_wp2_with (first | (go_at_call 72; (with_reducible refine (spec_l1In.calls a1 0 (wrap64 ((l0_1.length : Int) - 1)) true _ A7.out).mono ?_); rintro e w' ⟨rfl, ⟨nd, rfl⟩⟩; have p774 : 0 ≤ (a1 : Int) := of_decide_eq_true (by first | (with_reducible assumption) | assumption); have q774 : a1 < (l0_1.length : Int) := of_decide_eq_true (by first | (with_reducible assumption) | assumption); obtain ⟨ad774, A774_2, c774_2, e774, hx774_0, hx774_1, hx774_2, hl774_2, hi774_2⟩ := at_T90 HR0_1.out a1 p774 q774; cases e774; replace hx774_0 := (HB.out.cell (World.block_lt_of_cell? w _ hx774_0)).trans hx774_0; replace hx774_1 := (HB.out.cell (World.block_lt_of_cell? w _ hx774_1)).trans hx774_1; replace hx774_2 := (HB.out.cell (World.block_lt_of_cell? w _ hx774_2)).trans hx774_2; have HR774_2 := Aside0.mk hi774_2; have HC774_2 := Aside0.mk hl774_2; clear hi774_2 hl774_2; replace p774 := eq_true p774; replace q774 := eq_true q774))
            go_meet
            case rel => exact ⟨_, (!((rd_T90 l0_1 a1).f0)), (by first | rfl | (simp; done) | (simp [*]; done)), H', ⟨by first | omega | exact Nat.le_refl _⟩, ⟨by (with_reducible repeat (first | refine blk_drewN ?_ _ | refine blk_drew ?_ | refine blk_alloc ?_ _)); exact BK772.out⟩, ⟨by repeat (first | (with_reducible first | exact HB.out | apply below_alloc | apply pw_below_drewN | apply below_drew1 | refine below_set ?_ GE772.out) | exact HB.out)⟩⟩
          · rw [if_neg c10] at H
            exact absurd H (by simp)
        · rw [if_neg c9] at H
          exact absurd H (by simp)
      · replace c8 := Bool.eq_false_iff.mpr c8
        subst c8
        have H1 : (spec_l13Far.j0 k a1 a2 true a0_0 l0_1) = some r := by rw [if_neg (show ¬ (false = true) by decide)] at H; exact H
        clear H
        have H := H1
        clear H1
        have H' := Aside0.mk H
        clear H
        have hcz12_0 : w5.cell? ⟨gb772, 0, none⟩ = some (.int .i64 a0_0) := (blk_cell BK772.out 0).trans rfl
        have hcz12_1 : w5.cell? ⟨gb772, 1, none⟩ = some (.slice A0_1 l0_1.length c0_1) := (blk_cell BK772.out 1).trans rfl
        have hfz12_0 := blk_frozen BK772.out 0
        have hfz12_1 := blk_frozen BK772.out 1
        go_wp2_with (first | (go_at_call 72; (with_reducible refine (spec_l1In.calls a1 0 (wrap64 ((l0_1.length : Int) - 1)) false _ A7.out).mono ?_); rintro e w' ⟨rfl, ⟨nd, rfl⟩⟩))
        go_meet
        case rel => exact ⟨_, (true), (by first | rfl | (simp; done) | (simp [*]; done)), H', ⟨by first | omega | exact Nat.le_refl _⟩, ⟨by (with_reducible repeat (first | refine blk_drewN ?_ _ | refine blk_drew ?_ | refine blk_alloc ?_ _)); exact BK772.out⟩, ⟨by repeat (first | (with_reducible first | exact HB.out | apply below_alloc | apply pw_below_drewN | apply below_drew1 | refine below_set ?_ GE772.out) | exact HB.out)⟩⟩
  case rest =>
    clear HC4
    try clear c1
    try clear p2
    try clear c6
    try clear c6b0
    try clear p6
    try clear c7
    try clear p7
    try clear q7
    try clear hx7
    try clear c8
    try clear c9
    try clear c9b0
    try clear c10
    try clear c10b0
    try clear hcz11_0
    try clear hcz11_1
    try clear hcz12_0
    try clear hcz12_1
    try clear hfz11_0
    try clear hfz11_1
    try clear hfz12_0
    try clear hfz12_1
    try clear hx774_0
    try clear hx774_1
    try clear hx774_2
    try clear p774
    try clear q774
    obtain ⟨kq, x29_3, rfl, HA, HJ3, BK772, HB⟩ := hcut
    cases kq with
    | zero => exact absurd HA.out (by simp [spec_l13Far.j0])
    | succ kj3 =>
      have H := HA.out
      clear HA
      simp only [spec_l13Far.j0] at H
      by_cases c13 : x29_3 = true
      · subst c13
        have H1 : (some (([] : List Int))) = some r := by rw [if_pos rfl] at H; exact H
        clear H
        have H := H1
        clear H1
        obtain ⟨y775, hy775⟩ : ∃ y_ : List Int, y_ = (([] : List Int)) := ⟨_, rfl⟩
        replace H : (some y775) = some r := by first | (rw [hy775]; with_reducible exact H) | (have H2_ := (Option.bind_some _ _).symm.trans H; rw [hy775]; with_reducible exact H2_) | (have H2_ := (Option.bind_some _ _).symm.trans H; with_reducible exact H2_) | with_reducible exact H | (rw [hy775]; exact H) | exact H
        have Ny775 := Aside0.mk hy775
        clear hy775
        obtain rfl := Option.some.inj H
        go_wp2_with (first | ((with_reducible refine gate_dst (N := 30) rfl ?_); (try (refine gate_guard (by rfl) ?_; dsimp only)); refine Kd.R_lit (Kd.int .i64) _ 3 ?hg (N := 30) ?hd (xs := ([] : List Int)) (inner := []) (ok := fun _ => True) (okp := fun _ => True) ?hr ?hp (fun _ hk => hk) trivial (Below.refl _ _) (Nat.le_refl _) (by simp) ?_; (case hd => rfl); (case hg => rfl); (case hr => first | (go_simp; done) | (go_simp; rfl)); (case hp => exact (Reps.none _ _)); intro v776 w14 ho15 hb hg_ hnew_; clear hg_ hnew_; (first | rw [← Ny775.out] at ho15 | (simp only [Int.reduceToNat] at ho15; rw [← Ny775.out] at ho15)); have n0_ := Aside0.mk (Kd.R_lower ho15 (below_size (by repeat (first | (with_reducible first | exact HB.out | apply below_alloc | apply pw_below_drewN | apply below_drew1 | refine below_set ?_ GE772.out) | exact HB.out)))); have n1_ := Aside0.mk (blk_below (g := gb772) (o := .cells #[.int .i64 a0_0, .slice A0_1 l0_1.length c0_1] 49 (0, 0)) (by (with_reducible repeat (first | refine blk_drewN ?_ _ | refine blk_drew ?_ | refine blk_alloc ?_ _)); exact BK772.out) hb); have n2_ := Aside0.mk (below_step (by repeat (first | (with_reducible first | exact HB.out | apply below_alloc | apply pw_below_drewN | apply below_drew1 | refine below_set ?_ GE772.out) | exact HB.out)) hb); clear BK772; clear HB; have HO777 := n0_; have BK772 := n1_; have HB := n2_; clear n0_ n1_ n2_; clear hb ho15))
        go_ret
        exact ⟨_, by first | rfl | (simp [errW_none, errW_some] <;> rfl) | (simp [*, errW_none, errW_some] <;> rfl), by (with_reducible repeat (first | apply Kd.R_alloc | apply Kd.R_drewN | apply Kd.R_drew)); exact HO777.out, by repeat (first | (with_reducible first | exact HB.out | apply below_alloc | apply pw_below_drewN | apply below_drew1 | refine below_set ?_ GE772.out) | exact HB.out)⟩
      · replace c13 := Bool.eq_false_iff.mpr c13
        subst c13
        have H1 : (if 0 ≤ a1 then (if a1 < (l0_1.length : Int) then (if (rd_T90 l0_1 a1).f1.f0 = true then (some (([a2] : List Int))) else (spec_l13Far.l0 kj3 a2 (([] : List Int)) 0 a0_0 l0_1 ((rd_T90 l0_1 a1).f1.f0) ((rd_T90 l0_1 a1).f1.f1))) else (none)) else (none)) = some r := by rw [if_neg (show ¬ (false = true) by decide)] at H; exact H
        clear H
        have H := H1
        clear H1
        by_cases c16 : 0 ≤ a1
        · rw [if_pos c16] at H
          have c16b0 : decide (0 ≤ a1) = true := decide_eq_true c16
          clear c16
          by_cases c17 : a1 < (l0_1.length : Int)
          · rw [if_pos c17] at H
            have c17b0 : decide (a1 < (l0_1.length : Int)) = true := decide_eq_true c17
            clear c17
            obtain ⟨bq18, hbq18⟩ : ∃ b_ : Bool, b_ = ((rd_T90 l0_1 a1).f1.f0) := ⟨_, rfl⟩
            replace H : (if bq18 = true then (some (([a2] : List Int))) else (spec_l13Far.l0 kj3 a2 (([] : List Int)) 0 a0_0 l0_1 bq18 ((rd_T90 l0_1 a1).f1.f1))) = some r := by rw [← hbq18] at H; exact H
            have Nbq18 := Aside0.mk hbq18
            clear hbq18
            by_cases c19 : bq18 = true
            · subst c19
              have H1 : (some (([a2] : List Int))) = some r := by rw [if_pos rfl] at H; exact H
              clear H
              have H := H1
              clear H1
              obtain ⟨y780, hy780⟩ : ∃ y_ : List Int, y_ = (([a2] : List Int)) := ⟨_, rfl⟩
              replace H : (some y780) = some r := by first | (rw [hy780]; with_reducible exact H) | (have H2_ := (Option.bind_some _ _).symm.trans H; rw [hy780]; with_reducible exact H2_) | (have H2_ := (Option.bind_some _ _).symm.trans H; with_reducible exact H2_) | with_reducible exact H | (rw [hy780]; exact H) | exact H
              have Ny780 := Aside0.mk hy780
              clear hy780
              obtain rfl := Option.some.inj H
              have hcz20_0 : wc.cell? ⟨gb772, 0, none⟩ = some (.int .i64 a0_0) := (blk_cell BK772.out 0).trans rfl
              have hcz20_1 : wc.cell? ⟨gb772, 1, none⟩ = some (.slice A0_1 l0_1.length c0_1) := (blk_cell BK772.out 1).trans rfl
              have hfz20_0 := blk_frozen BK772.out 0
              have hfz20_1 := blk_frozen BK772.out 1
              have p778 : 0 ≤ (a1 : Int) := of_decide_eq_true (by first | (with_reducible assumption) | assumption)
              have q778 : a1 < (l0_1.length : Int) := of_decide_eq_true (by first | (with_reducible assumption) | assumption)
              obtain ⟨ad778, A778_2, c778_2, e778, hx778_0, hx778_1, hx778_2, hl778_2, hi778_2⟩ := at_T90 HR0_1.out a1 p778 q778
              (try rw [← Nbq18.out] at hx778_0)
              (try rw [← Nbq18.out] at hx778_1)
              cases e778
              replace hx778_0 := (HB.out.cell (World.block_lt_of_cell? w _ hx778_0)).trans hx778_0
              replace hx778_1 := (HB.out.cell (World.block_lt_of_cell? w _ hx778_1)).trans hx778_1
              replace hx778_2 := (HB.out.cell (World.block_lt_of_cell? w _ hx778_2)).trans hx778_2
              have HR778_2 := Aside0.mk hi778_2
              have HC778_2 := Aside0.mk hl778_2
              clear hi778_2 hl778_2
              replace p778 := eq_true p778
              replace q778 := eq_true q778
              go_wp2_with (first | ((with_reducible refine gate_dst (N := 7) rfl ?_); (try (refine gate_guard (by rfl) ?_; dsimp only)); refine box_event ?hg (N := 7) ?hd (cs := #[.bool false, .slice none 0 0]) (t := 54) ?hr ?_; (case hd => rfl); (case hg => rfl); (case hr => first | (go_simp; done) | (go_simp; rfl)); intro gb779 hg w21 hbox hb; have n0_ := Aside0.mk (blk_below (g := gb772) (o := .cells #[.int .i64 a0_0, .slice (some ad778) l0_1.length c0_1] 49 (0, 0)) (by (with_reducible repeat (first | refine blk_drewN ?_ _ | refine blk_drew ?_ | refine blk_alloc ?_ _)); exact BK772.out) hb); have n1_ := Aside0.mk (below_step (by repeat (first | (with_reducible first | exact HB.out | apply below_alloc | apply pw_below_drewN | apply below_drew1 | refine below_set ?_ GE772.out) | exact HB.out)) hb); have n2_ := Aside0.mk (hbox); have n3_ := Aside0.mk ((by rw [hg]; exact (below_size (by repeat (first | (with_reducible first | exact HB.out | apply below_alloc | apply pw_below_drewN | apply below_drew1 | refine below_set ?_ GE772.out) | exact HB.out))) : w.heap.size ≤ gb779)); have n4_ := Aside0.mk ((by rw [hg]; exact (below_size (by repeat (first | (with_reducible first | exact HB.out | apply below_alloc | apply pw_below_drewN | apply below_drew1 | refine below_set ?_ GE772.out) | exact HB.out))) : w.heap.size ≤ gb779)); have n5_ := Aside0.mk ((by rw [hg]; exact Nat.ne_of_lt (blk_lt (g := gb772) (o := .cells #[.int .i64 a0_0, .slice (some ad778) l0_1.length c0_1] 49 (0, 0)) (by (with_reducible repeat (first | refine blk_drewN ?_ _ | refine blk_drew ?_ | refine blk_alloc ?_ _)); exact BK772.out)) : gb772 ≠ gb779)); have n6_ := Aside0.mk ((by rw [hg]; exact Nat.ne_of_gt (blk_lt (g := gb772) (o := .cells #[.int .i64 a0_0, .slice (some ad778) l0_1.length c0_1] 49 (0, 0)) (by (with_reducible repeat (first | refine blk_drewN ?_ _ | refine blk_drew ?_ | refine blk_alloc ?_ _)); exact BK772.out)) : gb779 ≠ gb772)); clear BK772; clear HB; have BK772 := n0_; have HB := n1_; have BK779 := n2_; have GW779 := n3_; have GE779 := n4_; have NB772_779 := n5_; have NB779_772 := n6_; clear n0_ n1_ n2_ n3_ n4_ n5_ n6_; clear hb hbox hg; have hnb22 := NB779_772.out; have hnc22 := NB772_779.out; have hcz23_0 : w21.cell? ⟨gb779, 0, none⟩ = some (.bool false) := (blk_cell BK779.out 0).trans rfl; have hcz23_1 : w21.cell? ⟨gb779, 1, none⟩ = some (.slice none 0 0) := (blk_cell BK779.out 1).trans rfl; have hfz23_0 := blk_frozen BK779.out 0; have hfz23_1 := blk_frozen BK779.out 1) | ((with_reducible refine gate_dst (N := 40) rfl ?_); (try (refine gate_guard (by rfl) ?_; dsimp only)); refine Kd.R_lit (Kd.int .i64) _ 3 ?hg (N := 40) ?hd (xs := ([a2] : List Int)) (inner := [.int .i64 a2]) (ok := fun _ => True) (okp := fun _ => True) ?hr ?hp (fun _ hk => hk) trivial (Below.refl _ _) (Nat.le_refl _) (by simp) ?_; (case hd => rfl); (case hg => rfl); (case hr => first | (go_simp; done) | (go_simp; rfl)); (case hp => exact (Reps.one (show Kd.M (Kd.int .i64) _ _ _ a2 [.int .i64 a2] from rfl) (Reps.none _ _))); intro v781 w24 ho25 hb hg_ hnew_; clear hg_ hnew_; (first | rw [← Ny780.out] at ho25 | (simp only [Int.reduceToNat] at ho25; rw [← Ny780.out] at ho25)); have n0_ := Aside0.mk (Kd.R_lower ho25 (below_size (by repeat (first | (with_reducible first | exact HB.out | apply below_alloc | apply pw_below_drewN | apply below_drew1 | refine below_set ?_ GE772.out | refine below_set ?_ GE779.out) | exact HB.out)))); have n1_ := Aside0.mk (blk_below (g := gb772) (o := .cells #[.int .i64 a0_0, .slice (some ad778) l0_1.length c0_1] 49 (0, 0)) (by (with_reducible repeat (first | refine blk_drewN ?_ _ | refine blk_drew ?_ | refine blk_alloc ?_ _)); refine blk_far ?_ NB772_779.out _; (with_reducible repeat (first | refine blk_drewN ?_ _ | refine blk_drew ?_ | refine blk_alloc ?_ _)); refine blk_far ?_ NB772_779.out _; (with_reducible repeat (first | refine blk_drewN ?_ _ | refine blk_drew ?_ | refine blk_alloc ?_ _)); exact BK772.out) hb); have n2_ := Aside0.mk (blk_below (g := gb779) (o := .cells #[.bool true, .slice A778_2 ((rd_T90 l0_1 a1).f1.f1).length c778_2] 54 (0, 0)) (by (with_reducible repeat (first | refine blk_drewN ?_ _ | refine blk_drew ?_ | refine blk_alloc ?_ _)); refine blk_put (cs := #[.bool true, .slice none 0 0]) ?_ 1 _ rfl; (with_reducible repeat (first | refine blk_drewN ?_ _ | refine blk_drew ?_ | refine blk_alloc ?_ _)); refine blk_put (cs := #[.bool false, .slice none 0 0]) ?_ 0 _ rfl; (with_reducible repeat (first | refine blk_drewN ?_ _ | refine blk_drew ?_ | refine blk_alloc ?_ _)); exact BK779.out) hb); have n3_ := Aside0.mk (below_step (by repeat (first | (with_reducible first | exact HB.out | apply below_alloc | apply pw_below_drewN | apply below_drew1 | refine below_set ?_ GE772.out | refine below_set ?_ GE779.out) | exact HB.out)) hb); clear BK772; clear BK779; clear HB; have HO782 := n0_; have BK772 := n1_; have BK779 := n2_; have HB := n3_; clear n0_ n1_ n2_ n3_; clear hb ho25))
              go_ret
              exact ⟨_, by first | rfl | (simp [errW_none, errW_some] <;> rfl) | (simp [*, errW_none, errW_some] <;> rfl), by (with_reducible repeat (first | apply Kd.R_alloc | apply Kd.R_drewN | apply Kd.R_drew)); exact HO782.out, by repeat (first | (with_reducible first | exact HB.out | apply below_alloc | apply pw_below_drewN | apply below_drew1 | refine below_set ?_ GE772.out | refine below_set ?_ GE779.out) | exact HB.out)⟩
            · replace c19 := Bool.eq_false_iff.mpr c19
              subst c19
              have H1 : (spec_l13Far.l0 kj3 a2 (([] : List Int)) 0 a0_0 l0_1 false ((rd_T90 l0_1 a1).f1.f1)) = some r := by rw [if_neg (show ¬ (false = true) by decide)] at H; exact H
              clear H
              have H := H1
              clear H1
              obtain ⟨y783, hy783⟩ : ∃ y_ : List Int, y_ = (([] : List Int)) := ⟨_, rfl⟩
              replace H : (spec_l13Far.l0 kj3 a2 y783 0 a0_0 l0_1 false ((rd_T90 l0_1 a1).f1.f1)) = some r := by first | (rw [hy783]; with_reducible exact H) | (have H2_ := (Option.bind_some _ _).symm.trans H; rw [hy783]; with_reducible exact H2_) | (have H2_ := (Option.bind_some _ _).symm.trans H; with_reducible exact H2_) | with_reducible exact H | (rw [hy783]; exact H) | exact H
              have Ny783 := Aside0.mk hy783
              clear hy783
              have H' := Aside0.mk H
              clear H
              have hcz26_0 : wc.cell? ⟨gb772, 0, none⟩ = some (.int .i64 a0_0) := (blk_cell BK772.out 0).trans rfl
              have hcz26_1 : wc.cell? ⟨gb772, 1, none⟩ = some (.slice A0_1 l0_1.length c0_1) := (blk_cell BK772.out 1).trans rfl
              have hfz26_0 := blk_frozen BK772.out 0
              have hfz26_1 := blk_frozen BK772.out 1
              have p778 : 0 ≤ (a1 : Int) := of_decide_eq_true (by first | (with_reducible assumption) | assumption)
              have q778 : a1 < (l0_1.length : Int) := of_decide_eq_true (by first | (with_reducible assumption) | assumption)
              obtain ⟨ad778, A778_2, c778_2, e778, hx778_0, hx778_1, hx778_2, hl778_2, hi778_2⟩ := at_T90 HR0_1.out a1 p778 q778
              (try rw [← Nbq18.out] at hx778_0)
              (try rw [← Nbq18.out] at hx778_1)
              cases e778
              replace hx778_0 := (HB.out.cell (World.block_lt_of_cell? w _ hx778_0)).trans hx778_0
              replace hx778_1 := (HB.out.cell (World.block_lt_of_cell? w _ hx778_1)).trans hx778_1
              replace hx778_2 := (HB.out.cell (World.block_lt_of_cell? w _ hx778_2)).trans hx778_2
              have HR778_2 := Aside0.mk hi778_2
              have HC778_2 := Aside0.mk hl778_2
              clear hi778_2 hl778_2
              replace p778 := eq_true p778
              replace q778 := eq_true q778
              go_wp2_with (first | ((with_reducible refine gate_dst (N := 7) rfl ?_); (try (refine gate_guard (by rfl) ?_; dsimp only)); refine box_event ?hg (N := 7) ?hd (cs := #[.bool false, .slice none 0 0]) (t := 54) ?hr ?_; (case hd => rfl); (case hg => rfl); (case hr => first | (go_simp; done) | (go_simp; rfl)); intro gb779 hg w27 hbox hb; have n0_ := Aside0.mk (blk_below (g := gb772) (o := .cells #[.int .i64 a0_0, .slice (some ad778) l0_1.length c0_1] 49 (0, 0)) (by (with_reducible repeat (first | refine blk_drewN ?_ _ | refine blk_drew ?_ | refine blk_alloc ?_ _)); exact BK772.out) hb); have n1_ := Aside0.mk (below_step (by repeat (first | (with_reducible first | exact HB.out | apply below_alloc | apply pw_below_drewN | apply below_drew1 | refine below_set ?_ GE772.out) | exact HB.out)) hb); have n2_ := Aside0.mk (hbox); have n3_ := Aside0.mk ((by rw [hg]; exact (below_size (by repeat (first | (with_reducible first | exact HB.out | apply below_alloc | apply pw_below_drewN | apply below_drew1 | refine below_set ?_ GE772.out) | exact HB.out))) : w.heap.size ≤ gb779)); have n4_ := Aside0.mk ((by rw [hg]; exact (below_size (by repeat (first | (with_reducible first | exact HB.out | apply below_alloc | apply pw_below_drewN | apply below_drew1 | refine below_set ?_ GE772.out) | exact HB.out))) : w.heap.size ≤ gb779)); have n5_ := Aside0.mk ((by rw [hg]; exact Nat.ne_of_lt (blk_lt (g := gb772) (o := .cells #[.int .i64 a0_0, .slice (some ad778) l0_1.length c0_1] 49 (0, 0)) (by (with_reducible repeat (first | refine blk_drewN ?_ _ | refine blk_drew ?_ | refine blk_alloc ?_ _)); exact BK772.out)) : gb772 ≠ gb779)); have n6_ := Aside0.mk ((by rw [hg]; exact Nat.ne_of_gt (blk_lt (g := gb772) (o := .cells #[.int .i64 a0_0, .slice (some ad778) l0_1.length c0_1] 49 (0, 0)) (by (with_reducible repeat (first | refine blk_drewN ?_ _ | refine blk_drew ?_ | refine blk_alloc ?_ _)); exact BK772.out)) : gb779 ≠ gb772)); clear BK772; clear HB; have BK772 := n0_; have HB := n1_; have BK779 := n2_; have GW779 := n3_; have GE779 := n4_; have NB772_779 := n5_; have NB779_772 := n6_; clear n0_ n1_ n2_ n3_ n4_ n5_ n6_; clear hb hbox hg; have hnb28 := NB779_772.out; have hnc28 := NB772_779.out; have hcz29_0 : w27.cell? ⟨gb779, 0, none⟩ = some (.bool false) := (blk_cell BK779.out 0).trans rfl; have hcz29_1 : w27.cell? ⟨gb779, 1, none⟩ = some (.slice none 0 0) := (blk_cell BK779.out 1).trans rfl; have hfz29_0 := blk_frozen BK779.out 0; have hfz29_1 := blk_frozen BK779.out 1) | ((with_reducible refine gate_dst (N := 41) rfl ?_); (try (refine gate_guard (by rfl) ?_; dsimp only)); refine Kd.R_lit (Kd.int .i64) _ 3 ?hg (N := 41) ?hd (xs := ([] : List Int)) (inner := []) (ok := fun _ => True) (okp := fun _ => True) ?hr ?hp (fun _ hk => hk) trivial (Below.refl _ _) (Nat.le_refl _) (by simp) ?_; (case hd => rfl); (case hg => rfl); (case hr => first | (go_simp; done) | (go_simp; rfl)); (case hp => exact (Reps.none _ _)); intro v784 w30 ho31 hb hg_ hnew_; clear hg_ hnew_; (first | rw [← Ny783.out] at ho31 | (simp only [Int.reduceToNat] at ho31; rw [← Ny783.out] at ho31)); have n0_ := Aside0.mk (Kd.R_lower ho31 (below_size (by repeat (first | (with_reducible first | exact HB.out | apply below_alloc | apply pw_below_drewN | apply below_drew1 | refine below_set ?_ GE772.out | refine below_set ?_ GE779.out) | exact HB.out)))); have n1_ := Aside0.mk (blk_below (g := gb772) (o := .cells #[.int .i64 a0_0, .slice (some ad778) l0_1.length c0_1] 49 (0, 0)) (by (with_reducible repeat (first | refine blk_drewN ?_ _ | refine blk_drew ?_ | refine blk_alloc ?_ _)); refine blk_far ?_ NB772_779.out _; (with_reducible repeat (first | refine blk_drewN ?_ _ | refine blk_drew ?_ | refine blk_alloc ?_ _)); refine blk_far ?_ NB772_779.out _; (with_reducible repeat (first | refine blk_drewN ?_ _ | refine blk_drew ?_ | refine blk_alloc ?_ _)); exact BK772.out) hb); have n2_ := Aside0.mk (blk_below (g := gb779) (o := .cells #[.bool false, .slice A778_2 ((rd_T90 l0_1 a1).f1.f1).length c778_2] 54 (0, 0)) (by (with_reducible repeat (first | refine blk_drewN ?_ _ | refine blk_drew ?_ | refine blk_alloc ?_ _)); refine blk_put (cs := #[.bool false, .slice none 0 0]) ?_ 1 _ rfl; (with_reducible repeat (first | refine blk_drewN ?_ _ | refine blk_drew ?_ | refine blk_alloc ?_ _)); refine blk_put (cs := #[.bool false, .slice none 0 0]) ?_ 0 _ rfl; (with_reducible repeat (first | refine blk_drewN ?_ _ | refine blk_drew ?_ | refine blk_alloc ?_ _)); exact BK779.out) hb); have n3_ := Aside0.mk (below_step (by repeat (first | (with_reducible first | exact HB.out | apply below_alloc | apply pw_below_drewN | apply below_drew1 | refine below_set ?_ GE772.out | refine below_set ?_ GE779.out) | exact HB.out)) hb); clear BK772; clear BK779; clear HB; have HO785 := n0_; have BK772 := n1_; have BK779 := n2_; have HB := n3_; clear n0_ n1_ n2_ n3_; clear hb ho31))
              go_loopg [8, 9] kj3 (fun kq v8 v9 w' => ∃ (x8_2 : List Int) (x9_2 : Int), v9 = .int .i64 x9_2 ∧ Aside0 (spec_l13Far.l0 kq a2 x8_2 x9_2 a0_0 l0_1 false ((rd_T90 l0_1 a1).f1.f1) = some r) ∧ Aside0 (kq ≤ kj3) ∧ Aside0 (Kd.R (Kd.int .i64) 3 w' w.heap.size (fun _ => True) v8 x8_2) ∧ Aside0 (w'.heap[gb772]? = some (.cells #[.int .i64 a0_0, (.slice (some ad778) l0_1.length c0_1)] 49 (0, 0))) ∧ Aside0 (w'.heap[gb779]? = some (.cells #[.bool false, (.slice A778_2 ((rd_T90 l0_1 a1).f1.f1).length c778_2)] 54 (0, 0))) ∧ Aside0 (Below w.heap.size w w'))
              case atStart => exact ⟨(y783), (0), (by first | rfl | (simp; done) | (simp [*]; done)), H', ⟨Nat.le_refl _⟩, ⟨by (with_reducible repeat (first | apply Kd.R_alloc | apply Kd.R_drewN | apply Kd.R_drew)); exact HO785.out⟩, ⟨by (with_reducible repeat (first | refine blk_drewN ?_ _ | refine blk_drew ?_ | refine blk_alloc ?_ _)); exact BK772.out⟩, ⟨by (with_reducible repeat (first | refine blk_drewN ?_ _ | refine blk_drew ?_ | refine blk_alloc ?_ _)); exact BK779.out⟩, ⟨by repeat (first | (with_reducible first | exact HB.out | apply below_alloc | apply pw_below_drewN | apply below_drew1 | refine below_set ?_ GE772.out | refine below_set ?_ GE779.out) | exact HB.out)⟩⟩
              case round =>
                clear H'
                try clear c1
                try clear q1
                try clear c2
                try clear p2
                try clear c6
                try clear c6b0
                try clear p6
                try clear c7
                try clear p7
                try clear q7
                try clear hx7
                try clear c8
                try clear c9
                try clear c9b0
                try clear c10
                try clear c10b0
                try clear c13
                try clear c16
                try clear c16b0
                try clear c17
                try clear c17b0
                try clear q18
                try clear c19
                try clear c22
                try clear c28
                try clear hcz11_0
                try clear hcz11_1
                try clear hcz12_0
                try clear hcz12_1
                try clear hcz20_0
                try clear hcz20_1
                try clear hcz23_0
                try clear hcz23_1
                try clear hcz26_0
                try clear hcz26_1
                try clear hcz29_0
                try clear hcz29_1
                try clear hfz11_0
                try clear hfz11_1
                try clear hfz12_0
                try clear hfz12_1
                try clear hfz20_0
                try clear hfz20_1
                try clear hfz23_0
                try clear hfz23_1
                try clear hfz26_0
                try clear hfz26_1
                try clear hfz29_0
                try clear hfz29_1
                try clear hx774_0
                try clear hx774_1
                try clear hx774_2
                try clear hx778_0
                try clear hx778_1
                try clear hx778_2
                try clear p2
                try clear p6
                try clear p7
                try clear p774
                try clear p778
                try clear q7
                try clear q774
                try clear q778
                obtain ⟨x8_2, x9_2, rfl, HA, HK2, HO_8, BK772, BK779, HB⟩ := hrel
                cases gk with
                | zero => exact absurd HA.out (by simp [spec_l13Far.l0])
                | succ k2 =>
                  have H := HA.out
                  clear HA
                  simp only [spec_l13Far.l0] at H
                  by_cases c32 : x9_2 < (((rd_T90 l0_1 a1).f1.f1).length : Int)
                  · rw [if_pos c32] at H
                    have c32b0 : decide (x9_2 < (((rd_T90 l0_1 a1).f1.f1).length : Int)) = true := decide_eq_true c32
                    clear c32
                    by_cases c33 : 0 ≤ x9_2
                    · rw [if_pos c33] at H
                      have c33b0 : decide (0 ≤ x9_2) = true := decide_eq_true c33
                      clear c33
                      replace H := Option.bind_eq_some_iff.mp H
                      obtain ⟨t787, A340, H⟩ := H
                      replace H : (if x8_2.length + t787.length < 17592186044416 then (spec_l13Far.l0 k2 a2 (x8_2 ++ t787) (wrap64 (x9_2 + 1)) a0_0 l0_1 false ((rd_T90 l0_1 a1).f1.f1)) else (none)) = some r := H
                      have A34 := Aside0.mk A340
                      clear A340
                      by_cases c35 : x8_2.length + t787.length < 17592186044416
                      · rw [if_pos c35] at H
                        have LMc35 := Aside0.mk c35
                        clear c35
                        obtain ⟨y790, hy790⟩ : ∃ y_ : List Int, y_ = (x8_2 ++ t787) := ⟨_, rfl⟩
                        replace H : (spec_l13Far.l0 k2 a2 y790 (wrap64 (x9_2 + 1)) a0_0 l0_1 false ((rd_T90 l0_1 a1).f1.f1)) = some r := by first | (rw [hy790]; with_reducible exact H) | (have H2_ := (Option.bind_some _ _).symm.trans H; rw [hy790]; with_reducible exact H2_) | (have H2_ := (Option.bind_some _ _).symm.trans H; with_reducible exact H2_) | with_reducible exact H | (rw [hy790]; exact H) | exact H
                        have Ny790 := Aside0.mk hy790
                        clear hy790
                        have H' := Aside0.mk H
                        clear H
                        have hnb36 := NB779_772.out
                        have hnc36 := NB772_779.out
                        have hcz37_0 : wr.cell? ⟨gb779, 0, none⟩ = some (.bool false) := (blk_cell BK779.out 0).trans rfl
                        have hcz37_1 : wr.cell? ⟨gb779, 1, none⟩ = some (.slice A778_2 ((rd_T90 l0_1 a1).f1.f1).length c778_2) := (blk_cell BK779.out 1).trans rfl
                        have hfz37_0 := blk_frozen BK779.out 0
                        have hfz37_1 := blk_frozen BK779.out 1
                        try go_wp2
                        have n0_ := Aside0.mk (Kd.R_drew HO_8.out)
                        have n1_ := Aside0.mk (blk_drew BK772.out)
                        have n2_ := Aside0.mk (blk_drew BK779.out)
                        have n3_ := Aside0.mk (below_drew1 HB.out)
                        clear HO_8
                        clear BK772
                        clear BK779
                        clear HB
                        have HO_8 := n0_
                        have BK772 := n1_
                        have BK779 := n2_
                        have HB := n3_
                        clear n0_ n1_ n2_ n3_
                        have p786 : 0 ≤ (x9_2 : Int) := of_decide_eq_true (by first | (with_reducible assumption) | assumption)
                        have q786 : x9_2 < (((rd_T90 l0_1 a1).f1.f1).length : Int) := of_decide_eq_true (by first | (with_reducible assumption) | assumption)
                        obtain ⟨ad786, e786, hx786_0, hx786_1, hx786_2, hx786_3, hx786_4⟩ := at_T103 HR778_2.out x9_2 p786 q786
                        have hw786_4 := hx786_4
                        have hw786_3 := hx786_3
                        have hw786_2 := hx786_2
                        have hw786_1 := hx786_1
                        have hw786_0 := hx786_0
                        cases e786
                        replace hx786_0 := (HB.out.cell (World.block_lt_of_cell? w _ hx786_0)).trans hx786_0
                        replace hx786_1 := (HB.out.cell (World.block_lt_of_cell? w _ hx786_1)).trans hx786_1
                        replace hx786_2 := (HB.out.cell (World.block_lt_of_cell? w _ hx786_2)).trans hx786_2
                        replace hx786_3 := (HB.out.cell (World.block_lt_of_cell? w _ hx786_3)).trans hx786_3
                        replace hx786_4 := (HB.out.cell (World.block_lt_of_cell? w _ hx786_4)).trans hx786_4
                        replace p786 := eq_true p786
                        replace q786 := eq_true q786
                        refine start_ (n := 13) (S := fun w' => w'.cell? ⟨gb772, 0, none⟩ = some (.int .i64 a0_0) ∧ w'.cell? ⟨gb772, 1, none⟩ = some (.slice (some ad778) l0_1.length c0_1) ∧ w'.cell? ⟨gb779, 0, none⟩ = some (.bool false) ∧ w'.cell? ⟨gb779, 1, none⟩ = some (.slice (some ad786) ((rd_T90 l0_1 a1).f1.f1).length c778_2) ∧ w'.cell? (ad786.add ((x9_2).toNat * 5)) = some (.int .i64 ((rd_T103 ((rd_T90 l0_1 a1).f1.f1) x9_2).f0)) ∧ w'.cell? ⟨(ad786.add ((x9_2).toNat * 5)).block, (ad786.add ((x9_2).toNat * 5)).off + 1, none⟩ = some (.int .i64 ((rd_T103 ((rd_T90 l0_1 a1).f1.f1) x9_2).f1.f0)) ∧ w'.cell? ⟨(ad786.add ((x9_2).toNat * 5)).block, (ad786.add ((x9_2).toNat * 5)).off + 2, none⟩ = some (.int .i64 ((rd_T103 ((rd_T90 l0_1 a1).f1.f1) x9_2).f1.f1)) ∧ w'.cell? ⟨(ad786.add ((x9_2).toNat * 5)).block, (ad786.add ((x9_2).toNat * 5)).off + 3, none⟩ = some (.int .i64 ((rd_T103 ((rd_T90 l0_1 a1).f1.f1) x9_2).f1.f2)) ∧ w'.cell? ⟨(ad786.add ((x9_2).toNat * 5)).block, (ad786.add ((x9_2).toNat * 5)).off + 4, none⟩ = some (.int .i64 ((rd_T103 ((rd_T90 l0_1 a1).f1.f1) x9_2).f1.f3))) (ds := []) #[false, false, false, false, false, false, false, false, false, false, false, false, false] (by kernel_rfl) rfl rfl ⟨(blk_cell BK772.out 0).trans rfl, (blk_cell BK772.out 1).trans rfl, (blk_cell BK779.out 0).trans rfl, (blk_cell BK779.out 1).trans rfl, ((HB.out.cell (World.block_lt_of_cell? w _ hw786_0)).trans hw786_0), ((HB.out.cell (World.block_lt_of_cell? w _ hw786_1)).trans hw786_1), ((HB.out.cell (World.block_lt_of_cell? w _ hw786_2)).trans hw786_2), ((HB.out.cell (World.block_lt_of_cell? w _ hw786_3)).trans hw786_3), ((HB.out.cell (World.block_lt_of_cell? w _ hw786_4)).trans hw786_4)⟩ (fun hHeld => ?_); refine with_tabW spec_l13Far.tab10 spec_l13Far.bits10 (fun HT_ HW_ => ?_)
                        generalize wr.drew = w38 at HO_8 BK772 BK779 HB hx786_0 hx786_1 hx786_2 hx786_3 hx786_4 hHeld ⊢
                        refine pure_ (i := 0) (N := some 49) (v := ?_) (a' := ?_) #[true, false, false, false, false, false, false, false, false, false, false, false, false] rfl rfl (any_of HT_.out (by kernel_rfl)) (fun _ _ _ h => h) (Or.inl ⟨by rfl, ?_⟩) ?_ ?_
                        rotate_left
                        · intro w'
                          go_simp
                          with_reducible rfl
                        rotate_left
                        · simp only [Act.put, List.setIfInBounds_toArray, List.set_cons_zero, List.set_cons_succ, i64_w, i32_w]
                          rfl
                        refine pure_ (i := 2) (N := some 51) (v := ?_) (a' := ?_) #[true, false, true, false, false, false, false, false, false, false, false, false, false] rfl rfl (any_of HT_.out (by kernel_rfl)) (fun _ _ _ h => h) (Or.inl ⟨by rfl, ?_⟩) ?_ ?_
                        rotate_left
                        · intro w'
                          go_simp
                          with_reducible rfl
                        rotate_left
                        · simp only [Act.put, List.setIfInBounds_toArray, List.set_cons_zero, List.set_cons_succ, i64_w, i32_w]
                          rfl
                        refine pure_ (i := 4) (N := some 53) (v := ?_) (a' := ?_) #[true, false, true, false, true, false, false, false, false, false, false, false, false] rfl rfl (any_of HT_.out (by kernel_rfl)) (fun _ _ _ h => h) (Or.inl ⟨by rfl, ?_⟩) ?_ ?_
                        rotate_left
                        · intro w'
                          go_simp
                          with_reducible rfl
                        rotate_left
                        · simp only [Act.put, List.setIfInBounds_toArray, List.set_cons_zero, List.set_cons_succ, i64_w, i32_w]
                          rfl
                        refine pure_ (i := 8) (N := some 57) (v := ?_) (a' := ?_) #[true, false, true, false, true, false, false, false, true, false, false, false, false] rfl rfl (any_of HT_.out (by kernel_rfl)) (fun _ _ _ h => h) (Or.inl ⟨by rfl, ?_⟩) ?_ ?_
                        rotate_left
                        · intro w'
                          go_simp
                          with_reducible rfl
                        rotate_left
                        · simp only [Act.put, List.setIfInBounds_toArray, List.set_cons_zero, List.set_cons_succ, i64_w, i32_w]
                          rfl
                        refine pure_ (i := 9) (N := some 58) (v := ?_) (a' := ?_) #[true, false, true, false, true, false, false, false, true, true, false, false, false] rfl rfl (any_of HT_.out (by kernel_rfl)) (fun _ _ _ h => h) (Or.inl ⟨by rfl, ?_⟩) ?_ ?_
                        rotate_left
                        · intro w'
                          go_simp
                          with_reducible rfl
                        rotate_left
                        · simp only [Act.put, List.setIfInBounds_toArray, List.set_cons_zero, List.set_cons_succ, i64_w, i32_w]
                          rfl
                        refine take_ (i := 1) (N := some 50) (v := ?_) (a' := ?_) #[true, true, true, false, true, false, false, false, true, true, false, false, false] rfl rfl (take_ofW HT_.out HW_.out (by kernel_rfl)) (fun _ _ _ h => h) (Or.inl ⟨by rfl, ?_⟩) hHeld ?_ ?_
                        rotate_left
                        · rintro w' ⟨s0, s1, s2, s3, s4, s5, s6, s7, s8⟩
                          go_simp
                          with_reducible rfl
                        rotate_left
                        · simp only [Act.put, List.setIfInBounds_toArray, List.set_cons_zero, List.set_cons_succ, i64_w, i32_w]
                          rfl
                        refine take_ (i := 3) (N := some 52) (v := ?_) (a' := ?_) #[true, true, true, true, true, false, false, false, true, true, false, false, false] rfl rfl (take_ofW HT_.out HW_.out (by kernel_rfl)) (fun _ _ _ h => h) (Or.inl ⟨by rfl, ?_⟩) hHeld ?_ ?_
                        rotate_left
                        · rintro w' ⟨s0, s1, s2, s3, s4, s5, s6, s7, s8⟩
                          go_simp
                          with_reducible rfl
                        rotate_left
                        · simp only [Act.put, List.setIfInBounds_toArray, List.set_cons_zero, List.set_cons_succ, i64_w, i32_w]
                          rfl
                        refine pure_ (i := 5) (N := some 54) (v := ?_) (a' := ?_) #[true, true, true, true, true, true, false, false, true, true, false, false, false] rfl rfl (any_of HT_.out (by kernel_rfl)) (fun _ _ _ h => h) (Or.inl ⟨by rfl, ?_⟩) ?_ ?_
                        rotate_left
                        · intro w'
                          go_simp
                          with_reducible rfl
                        rotate_left
                        · simp only [Act.put, List.setIfInBounds_toArray, List.set_cons_zero, List.set_cons_succ, i64_w, i32_w]
                          rfl
                        refine pure_ (i := 6) (N := some 55) (v := ?_) (a' := ?_) #[true, true, true, true, true, true, true, false, true, true, false, false, false] rfl rfl (any_of HT_.out (by kernel_rfl)) (fun _ _ _ h => h) (Or.inl ⟨by rfl, ?_⟩) ?_ ?_
                        rotate_left
                        · intro w'
                          go_simp
                          with_reducible rfl
                        rotate_left
                        · simp only [Act.put, List.setIfInBounds_toArray, List.set_cons_zero, List.set_cons_succ, i64_w, i32_w]
                          rfl
                        refine take_ (i := 7) (N := some 56) (v := ?_) (a' := ?_) #[true, true, true, true, true, true, true, true, true, true, false, false, false] rfl rfl (take_ofW HT_.out HW_.out (by kernel_rfl)) (fun _ _ _ h => h) (Or.inl ⟨by rfl, ?_⟩) hHeld ?_ ?_
                        rotate_left
                        · rintro w' ⟨s0, s1, s2, s3, s4, s5, s6, s7, s8⟩
                          go_simp
                          with_reducible rfl
                        rotate_left
                        · simp only [Act.put, List.setIfInBounds_toArray, List.set_cons_zero, List.set_cons_succ, i64_w, i32_w]
                          rfl
                        refine one_ (i := 10) (N := some 59) #[true, true, true, true, true, true, true, true, true, true, true, false, false] rfl rfl (one_of HT_.out (by kernel_rfl)) (by decide) (fun K hK => ?_)
                        refine goes_ Try.func97 (by kernel_rfl) rfl #[.agg #[.int .i64 a0_0, .slice (some ad778) l0_1.length c0_1], .int .i64 ((rd_T103 ((rd_T90 l0_1 a1).f1.f1) x9_2).f0), .int .i64 (wrap64 (a2 + 1))] (by rfl) rfl rfl (by (try simp only [List.map_toArray, List.map_cons, List.map_nil]); first | done | rfl | (simp only [List.length_drop, List.length_take]; rfl)) ?_
                        with_reducible refine (ih k2 (by have := HJ3.out; have := HK2.out; omega) a0_0 _ _ l0_1 ((rd_T103 ((rd_T90 l0_1 a1).f1.f1) x9_2).f0) (wrap64 (a2 + 1)) t787 _ ?side1 ?side2 A34.out).mono ?_
                        (case side1 => repeat (first | exact (Kd.C_below HR0_1.out HB.out) | (with_reducible refine Kd.C_alloc ?_ _) | (with_reducible refine Kd.C_drewN ?_ _) | (with_reducible refine Kd.C_drew ?_)))
                        (case side2 => exact HC0_1.out)
                        rintro e w39 ⟨v788, rfl, ho0, hb⟩
                        refine ⟨_, rfl, ?_⟩
                        have n0_ := Aside0.mk (Kd.R_elder' (by (with_reducible repeat (first | apply Kd.R_alloc | apply Kd.R_drewN | apply Kd.R_drew)); exact HO_8.out) (Kd.R_base ho0) hb)
                        have n1_ := Aside0.mk (Kd.R_lower (Kd.R_new' ho0 (Kd.R_lt (by (with_reducible repeat (first | apply Kd.R_alloc | apply Kd.R_drewN | apply Kd.R_drew)); exact HO_8.out))) (below_size (by repeat (first | (with_reducible first | exact HB.out | apply below_alloc | apply pw_below_drewN | apply below_drew1 | refine below_set ?_ GE772.out | refine below_set ?_ GE779.out) | exact HB.out))))
                        have n2_ := Aside0.mk (blk_below (g := gb772) (o := .cells #[.int .i64 a0_0, .slice (some ad778) l0_1.length c0_1] 49 (0, 0)) (by (with_reducible repeat (first | refine blk_drewN ?_ _ | refine blk_drew ?_ | refine blk_alloc ?_ _)); exact BK772.out) hb)
                        have n3_ := Aside0.mk (blk_below (g := gb779) (o := .cells #[.bool false, .slice (some ad786) ((rd_T90 l0_1 a1).f1.f1).length c778_2] 54 (0, 0)) (by (with_reducible repeat (first | refine blk_drewN ?_ _ | refine blk_drew ?_ | refine blk_alloc ?_ _)); exact BK779.out) hb)
                        have n4_ := Aside0.mk (below_step (by repeat (first | (with_reducible first | exact HB.out | apply below_alloc | apply pw_below_drewN | apply below_drew1 | refine below_set ?_ GE772.out | refine below_set ?_ GE779.out) | exact HB.out)) hb)
                        clear HO_8
                        clear BK772
                        clear BK779
                        clear HB
                        have HO_8 := n0_
                        have HO789 := n1_
                        have BK772 := n2_
                        have BK779 := n3_
                        have HB := n4_
                        clear n0_ n1_ n2_ n3_ n4_
                        (try clear hb)
                        (try clear hb2)
                        (try clear hk)
                        (try clear hi)
                        (try clear ho0)
                        obtain ⟨Ao41, co41, eo41⟩ := Kd.R_slice HO789.out
                        (first | subst eo41 | (injection eo41 with f1_ f2_ f3_; have f4_ := f1_.symm; have f5_ := f3_.symm; clear f1_ f2_ f3_; subst f4_; subst f5_))
                        refine hK.out _ _ ⟨(blk_cell BK772.out 0).trans rfl, (blk_cell BK772.out 1).trans rfl, (blk_cell BK779.out 0).trans rfl, (blk_cell BK779.out 1).trans rfl, ((HB.out.cell (World.block_lt_of_cell? w _ hw786_0)).trans hw786_0), ((HB.out.cell (World.block_lt_of_cell? w _ hw786_1)).trans hw786_1), ((HB.out.cell (World.block_lt_of_cell? w _ hw786_2)).trans hw786_2), ((HB.out.cell (World.block_lt_of_cell? w _ hw786_3)).trans hw786_3), ((HB.out.cell (World.block_lt_of_cell? w _ hw786_4)).trans hw786_4)⟩ (fun hHeld => ?_)
                        clear hK K
                        refine norm_ (a' := ?_) ?_ ?_
                        rotate_left
                        · show Act.put _ (some 59) _ = _
                          simp only [Act.put, List.setIfInBounds_toArray, List.set_cons_zero, List.set_cons_succ, i64_w, i32_w]
                          rfl
                        refine one_ (i := 11) (N := some 60) #[true, true, true, true, true, true, true, true, true, true, true, true, false] rfl rfl (one_of HT_.out (by kernel_rfl)) (by decide) (fun K hK => ?_)
                        refine Kd.R_append_rows_step (Kd.int .i64) (w0 := w) w.heap.size (by rfl) (.tmp 49) (.tmp 59) 64 3 (.int .i64 0) 8 rfl Try.underlying64 info3 rfl (by decide) (by omega) u8 x8_2 t787 _ _ _ (fun k_ => some k_ ≠ (.slice Ao41 t787.length co41 : Value).ownBlock) (fun _ => False) rfl rfl ?aO ?aR (fun _ _ h => h) (fun _ h => h.elim) ?aF ?aB ?aS ?aL ?_
                        (case aR => repeat (first | exact (Kd.R_reads' HO789.out).2.2 | (with_reducible refine Kd.C_alloc ?_ _) | (with_reducible refine Kd.C_drewN ?_ _) | (with_reducible refine Kd.C_drew ?_)))
                        (case aB => exact (by repeat (first | (with_reducible first | exact HB.out | apply below_alloc | apply pw_below_drewN | apply below_drew1 | refine below_set ?_ GE772.out | refine below_set ?_ GE779.out) | exact HB.out)))
                        (case aF => exact (fun k_ hk => Kd.fresh' (Kd.R_lt (by (with_reducible repeat (first | apply Kd.R_alloc | apply Kd.R_drewN | apply Kd.R_drew)); exact HO789.out)) k_ hk))
                        (case aO => exact (by (with_reducible repeat (first | apply Kd.R_alloc | apply Kd.R_drewN | apply Kd.R_drew)); exact Kd.R_mono HO_8.out (fun _ hk => hk.2)))
                        (case aS => exact (below_size (by repeat (first | (with_reducible first | exact HB.out | apply below_alloc | apply pw_below_drewN | apply below_drew1 | refine below_set ?_ GE772.out | refine below_set ?_ GE779.out) | exact HB.out))))
                        (case aL => have := LMc35.out; omega)
                        intro v791 w40 ho hb hg hat
                        rw [← Ny790.out] at ho
                        have n0_ := Aside0.mk (blk_grown (g := gb772) (o := .cells #[.int .i64 a0_0, .slice (some ad778) l0_1.length c0_1] 49 (0, 0)) (by (with_reducible repeat (first | refine blk_drewN ?_ _ | refine blk_drew ?_ | refine blk_alloc ?_ _)); exact BK772.out) hg (Kd.R_ne HO_8.out BK772.out (by decide)))
                        have n1_ := Aside0.mk (blk_grown (g := gb779) (o := .cells #[.bool false, .slice (some ad786) ((rd_T90 l0_1 a1).f1.f1).length c778_2] 54 (0, 0)) (by (with_reducible repeat (first | refine blk_drewN ?_ _ | refine blk_drew ?_ | refine blk_alloc ?_ _)); exact BK779.out) hg (Kd.R_ne HO_8.out BK779.out (by decide)))
                        have n2_ := Aside0.mk (Kd.R_after (ok := (fun _ => True)) (by (with_reducible repeat (first | apply Kd.R_alloc | apply Kd.R_drewN | apply Kd.R_drew)); exact HO789.out) hg hat)
                        have n3_ := Aside0.mk (hb)
                        have n4_ := Aside0.mk (ho)
                        clear BK772
                        clear BK779
                        clear HO789
                        clear HB
                        clear HO_8
                        have BK772 := n0_
                        have BK779 := n1_
                        have HO789 := n2_
                        have HB := n3_
                        have HO792 := n4_
                        clear n0_ n1_ n2_ n3_ n4_
                        clear ho hb hg hat
                        refine hK.out _ _ ⟨(blk_cell BK772.out 0).trans rfl, (blk_cell BK772.out 1).trans rfl, (blk_cell BK779.out 0).trans rfl, (blk_cell BK779.out 1).trans rfl, ((HB.out.cell (World.block_lt_of_cell? w _ hw786_0)).trans hw786_0), ((HB.out.cell (World.block_lt_of_cell? w _ hw786_1)).trans hw786_1), ((HB.out.cell (World.block_lt_of_cell? w _ hw786_2)).trans hw786_2), ((HB.out.cell (World.block_lt_of_cell? w _ hw786_3)).trans hw786_3), ((HB.out.cell (World.block_lt_of_cell? w _ hw786_4)).trans hw786_4)⟩ (fun hHeld => ?_)
                        clear hK K
                        refine norm_ (a' := ?_) ?_ ?_
                        rotate_left
                        · show Act.put _ (some 60) _ = _
                          simp only [Act.put, List.setIfInBounds_toArray, List.set_cons_zero, List.set_cons_succ, i64_w, i32_w]
                          rfl
                        refine pure_ (i := 12) (N := some 8) (v := ?_) (a' := ?_) #[true, true, true, true, true, true, true, true, true, true, true, true, true] rfl rfl (any_of HT_.out (by kernel_rfl)) (fun _ _ _ h => h) (Or.inl ⟨by rfl, ?_⟩) ?_ ?_
                        rotate_left
                        · intro w'
                          go_simp
                          with_reducible rfl
                        rotate_left
                        · simp only [Act.put, List.setIfInBounds_toArray, List.set_cons_zero, List.set_cons_succ, i64_w, i32_w]
                          rfl
                        refine done_ (done_of HT_.out (by kernel_rfl)) ?_
                        try go_wp2
                        go_roundg k2
                        case measure => have := HJ3.out; have := HK2.out; omega
                        case rel => exact ⟨(y790), (wrap64 (x9_2 + 1)), (by first | rfl | (simp; done) | (simp [*]; done)), H', ⟨by have := HJ3.out; have := HK2.out; omega⟩, ⟨by (with_reducible repeat (first | apply Kd.R_alloc | apply Kd.R_drewN | apply Kd.R_drew)); exact Kd.R_mono HO792.out (fun _ hk => trivial)⟩, ⟨by (with_reducible repeat (first | refine blk_drewN ?_ _ | refine blk_drew ?_ | refine blk_alloc ?_ _)); exact BK772.out⟩, ⟨by (with_reducible repeat (first | refine blk_drewN ?_ _ | refine blk_drew ?_ | refine blk_alloc ?_ _)); exact BK779.out⟩, ⟨by repeat (first | (with_reducible first | exact HB.out | apply below_alloc | apply pw_below_drewN | apply below_drew1 | refine below_set ?_ GE772.out | refine below_set ?_ GE779.out) | exact HB.out)⟩⟩
                      · rw [if_neg c35] at H
                        exact absurd H (by simp)
                    · rw [if_neg c33] at H
                      exact absurd H (by simp)
                  · rw [if_neg c32] at H
                    have c32b0 : decide (x9_2 < (((rd_T90 l0_1 a1).f1.f1).length : Int)) = false := decide_eq_false c32
                    clear c32
                    obtain rfl := Option.some.inj H
                    have hnb42 := NB779_772.out
                    have hnc42 := NB772_779.out
                    have hcz43_0 : wr.cell? ⟨gb779, 0, none⟩ = some (.bool false) := (blk_cell BK779.out 0).trans rfl
                    have hcz43_1 : wr.cell? ⟨gb779, 1, none⟩ = some (.slice A778_2 ((rd_T90 l0_1 a1).f1.f1).length c778_2) := (blk_cell BK779.out 1).trans rfl
                    have hfz43_0 := blk_frozen BK779.out 0
                    have hfz43_1 := blk_frozen BK779.out 1
                    go_wp2
                    go_ret
                    exact ⟨_, by first | rfl | (simp [errW_none, errW_some] <;> rfl) | (simp [*, errW_none, errW_some] <;> rfl), by (with_reducible repeat (first | apply Kd.R_alloc | apply Kd.R_drewN | apply Kd.R_drew)); exact HO_8.out, by repeat (first | (with_reducible first | exact HB.out | apply below_alloc | apply pw_below_drewN | apply below_drew1 | refine below_set ?_ GE772.out | refine below_set ?_ GE779.out) | exact HB.out)⟩
          · rw [if_neg c17] at H
            exact absurd H (by simp)
        · rw [if_neg c16] at H
          exact absurd H (by simp)

end Go.Proofs.Ytngjaajcdbodeaa.All

namespace Go.Proofs.Ytngjaajcdbodeaa.All
open Go.RowKit Go.Proofs.YtngjaajcdbodeaaW.PrintWords Go.Proofs.YtngjaajcdbodeaaW.PrintLast Go.Proofs.YtngjaajcdbodeaaW.PrintMore
attribute [local go_sem] max2_int min2_int max_two min_two max_three min_three max_four min_four   -- for this text's walks alone
set_option linter.unusedVariables false
set_option linter.unusedSimpArgs false

/-! ### spec_Even: function 45 -/
def spec_Even.l0 : Nat → List Int → Int → Option (Bool)
  | 0, _, _ => none
  | k + 1, x3, x4 => if x4 < (x3.length : Int) then (if 0 ≤ x4 then (if 0 < (x3.length : Int) then (if (rd x3 x4) = (rd x3 0) then (spec_Even.l0 k x3 (wrap64 (x4 + 1))) else (some false)) else (none)) else (none)) else (some true)
def spec_Even.f (k : Nat) (a0_0 : Int) (l0_1 : List (S90)) : Option (Bool) := (spec_BookOk.f k a0_0 l0_1).bind fun t794 => (if t794 = true then ((spec_l13Far.f k a0_0 l0_1 a0_0 1).bind fun t795 => (spec_Even.l0 k t795 1)) else (some false))
theorem spec_Even.mono_l : ∀ k, (∀ y0 y1, LeO (spec_Even.l0 k y0 y1) (spec_Even.l0 (k + 1) y0 y1))
  | 0 => fun _ _ r h => by simp [spec_Even.l0] at h
  | k + 1 => by
    have ih0 := spec_Even.mono_l k
    · intro y0 y1
      unfold spec_Even.l0
      repeat' first
      | (with_reducible exact ih0 _ _)
      | (with_reducible exact spec_BookOk.mono _ _ _)
      | (with_reducible exact spec_l13Far.mono _ _ _ _ _)
      | (with_reducible exact LeO.refl _)
      | (with_reducible exact LeO.none _)
      | (with_reducible refine LeO.ite ?_ ?_)
      | (with_reducible refine LeO.bind ?_ (fun _ => ?_))
      | exact ih0 _ _
      | exact spec_BookOk.mono _ _ _
      | exact spec_l13Far.mono _ _ _ _ _
      | exact LeO.none _
      | refine LeO.ite ?_ ?_
      | refine LeO.bind ?_ (fun _ => ?_)
theorem spec_Even.mono : ∀ a0 a1 k, LeO (spec_Even.f k a0 a1) (spec_Even.f (k + 1) a0 a1) := by
  intro a0 a1 k
  have ih0 := spec_Even.mono_l k
  unfold spec_Even.f
  repeat' first
      | (with_reducible exact ih0 _ _)
      | (with_reducible exact spec_BookOk.mono _ _ _)
      | (with_reducible exact spec_l13Far.mono _ _ _ _ _)
      | (with_reducible exact LeO.refl _)
      | (with_reducible exact LeO.none _)
      | (with_reducible refine LeO.ite ?_ ?_)
      | (with_reducible refine LeO.bind ?_ (fun _ => ?_))
      | exact ih0 _ _
      | exact spec_BookOk.mono _ _ _
      | exact spec_l13Far.mono _ _ _ _ _
      | exact LeO.none _
      | refine LeO.ite ?_ ?_
      | refine LeO.bind ?_ (fun _ => ?_)
set_option maxHeartbeats 8000000 in
set_option maxRecDepth 100000 in
theorem spec_Even.calls (k : Nat) (a0_0 : Int) (A0_1 : Option Addr) (c0_1 : Nat) (l0_1 : List (S90)) (r : Bool) (w : World) (hr0_1 : Kd.C k90 w A0_1 l0_1.length l0_1) (hc0_1 : l0_1.length ≤ c0_1) (h : spec_Even.f k a0_0 l0_1 = some r) :
    Calls Try.prog 45 #[.agg #[.int .i64 a0_0, .slice A0_1 l0_1.length c0_1]] w fun e w' => e = .returned (.bool r) ∧ Below w.heap.size w w' := by
  have hu49 := Try.underlying49
  have HR0_1 := Aside0.mk hr0_1
  have HC0_1 := Aside0.mk hc0_1
  clear hr0_1 hc0_1
  have HB := Aside0.mk (Below.refl w.heap.size w)
  have H : ((spec_BookOk.f k a0_0 l0_1).bind fun t794 => (if t794 = true then ((spec_l13Far.f k a0_0 l0_1 a0_0 1).bind fun t795 => (spec_Even.l0 k t795 1)) else (some false))) = some r := h
  clear h
  replace H := Option.bind_eq_some_iff.mp H
  obtain ⟨t794, A20, H⟩ := H
  replace H : (if t794 = true then ((spec_l13Far.f k a0_0 l0_1 a0_0 1).bind fun t795 => (spec_Even.l0 k t795 1)) else (some false)) = some r := H
  have A2 := Aside0.mk A20
  clear A20
  by_cases c3 : t794 = true
  · subst c3
    have H1 : ((spec_l13Far.f k a0_0 l0_1 a0_0 1).bind fun t795 => (spec_Even.l0 k t795 1)) = some r := by rw [if_pos rfl] at H; exact H
    clear H
    have H := H1
    clear H1
    replace H := Option.bind_eq_some_iff.mp H
    obtain ⟨t795, A40, H⟩ := H
    replace H : (spec_Even.l0 k t795 1) = some r := H
    have A4 := Aside0.mk A40
    clear A40
    have H' := Aside0.mk H
    clear H
    go_enter Try.func45, Try.ntmps45
    go_wp2_with (first | ((with_reducible refine gate_dst (N := 1) rfl ?_); refine box_event ?hg (N := 1) ?hd (cs := #[.int .i64 a0_0, .slice A0_1 l0_1.length c0_1]) (t := 49) ?hr ?_; (case hd => rfl); (case hg => rfl); (case hr => first | (go_simp; done) | (go_simp; rfl)); intro gb793 hg w5 hbox hb; have n0_ := Aside0.mk (below_step (by repeat (first | (with_reducible first | exact HB.out | apply below_alloc | apply pw_below_drewN | apply below_drew1) | exact HB.out)) hb); have n1_ := Aside0.mk (hbox); have n2_ := Aside0.mk ((by rw [hg]; exact (below_size (by repeat (first | (with_reducible first | exact HB.out | apply below_alloc | apply pw_below_drewN | apply below_drew1) | exact HB.out))) : w.heap.size ≤ gb793)); have n3_ := Aside0.mk ((by rw [hg]; exact (below_size (by repeat (first | (with_reducible first | exact HB.out | apply below_alloc | apply pw_below_drewN | apply below_drew1) | exact HB.out))) : w.heap.size ≤ gb793)); clear HB; have HB := n0_; have BK793 := n1_; have GW793 := n2_; have GE793 := n3_; clear n0_ n1_ n2_ n3_; clear hb hbox hg; have hcz6_0 : w5.cell? ⟨gb793, 0, none⟩ = some (.int .i64 a0_0) := (blk_cell BK793.out 0).trans rfl; have hcz6_1 : w5.cell? ⟨gb793, 1, none⟩ = some (.slice A0_1 l0_1.length c0_1) := (blk_cell BK793.out 1).trans rfl; have hfz6_0 := blk_frozen BK793.out 0; have hfz6_1 := blk_frozen BK793.out 1) | (go_at_call 41; (with_reducible refine (spec_BookOk.calls k a0_0 _ _ l0_1 true _ ?side1 ?side2 A2.out).mono ?_); (case side1 => repeat (first | exact (Kd.C_below HR0_1.out HB.out) | (with_reducible refine Kd.C_alloc ?_ _) | (with_reducible refine Kd.C_drewN ?_ _) | (with_reducible refine Kd.C_drew ?_))); (case side2 => exact HC0_1.out); rintro e w7 ⟨rfl, hb⟩; have n0_ := Aside0.mk (blk_below (g := gb793) (o := .cells #[.int .i64 a0_0, .slice A0_1 l0_1.length c0_1] 49 (0, 0)) (by (with_reducible repeat (first | refine blk_drewN ?_ _ | refine blk_drew ?_ | refine blk_alloc ?_ _)); exact BK793.out) hb); have n1_ := Aside0.mk (below_step (by repeat (first | (with_reducible first | exact HB.out | apply below_alloc | apply pw_below_drewN | apply below_drew1 | refine below_set ?_ GE793.out) | exact HB.out)) hb); clear BK793; clear HB; have BK793 := n0_; have HB := n1_; clear n0_ n1_; (try clear hb); (try clear hb2); (try clear hk); (try clear hi); have hcz8_0 : w7.cell? ⟨gb793, 0, none⟩ = some (.int .i64 a0_0) := (blk_cell BK793.out 0).trans rfl; have hcz8_1 : w7.cell? ⟨gb793, 1, none⟩ = some (.slice A0_1 l0_1.length c0_1) := (blk_cell BK793.out 1).trans rfl; have hfz8_0 := blk_frozen BK793.out 0; have hfz8_1 := blk_frozen BK793.out 1) | (go_at_call 97; (with_reducible refine (spec_l13Far.calls k a0_0 _ _ l0_1 a0_0 1 t795 _ ?side1 ?side2 A4.out).mono ?_); (case side1 => repeat (first | exact (Kd.C_below HR0_1.out HB.out) | (with_reducible refine Kd.C_alloc ?_ _) | (with_reducible refine Kd.C_drewN ?_ _) | (with_reducible refine Kd.C_drew ?_))); (case side2 => exact HC0_1.out); rintro e w9 ⟨v796, rfl, ho0, hb⟩; have n0_ := Aside0.mk (Kd.R_lower ho0 (below_size (by repeat (first | (with_reducible first | exact HB.out | apply below_alloc | apply pw_below_drewN | apply below_drew1 | refine below_set ?_ GE793.out) | exact HB.out)))); have n1_ := Aside0.mk (blk_below (g := gb793) (o := .cells #[.int .i64 a0_0, .slice A0_1 l0_1.length c0_1] 49 (0, 0)) (by (with_reducible repeat (first | refine blk_drewN ?_ _ | refine blk_drew ?_ | refine blk_alloc ?_ _)); exact BK793.out) hb); have n2_ := Aside0.mk (below_step (by repeat (first | (with_reducible first | exact HB.out | apply below_alloc | apply pw_below_drewN | apply below_drew1 | refine below_set ?_ GE793.out) | exact HB.out)) hb); clear BK793; clear HB; have HO797 := n0_; have BK793 := n1_; have HB := n2_; clear n0_ n1_ n2_; (try clear hb); (try clear hb2); (try clear hk); (try clear hi); (try clear ho0)))
    repeat (go_quiet (first | ((with_reducible refine gate_dst (N := 1) rfl ?_); refine box_event ?hg (N := 1) ?hd (cs := #[.int .i64 a0_0, .slice A0_1 l0_1.length c0_1]) (t := 49) ?hr ?_; (case hd => rfl); (case hg => rfl); (case hr => first | (go_simp; done) | (go_simp; rfl)); intro gb793 hg w5 hbox hb; have n0_ := Aside0.mk (below_step (by repeat (first | (with_reducible first | exact HB.out | apply below_alloc | apply pw_below_drewN | apply below_drew1) | exact HB.out)) hb); have n1_ := Aside0.mk (hbox); have n2_ := Aside0.mk ((by rw [hg]; exact (below_size (by repeat (first | (with_reducible first | exact HB.out | apply below_alloc | apply pw_below_drewN | apply below_drew1) | exact HB.out))) : w.heap.size ≤ gb793)); have n3_ := Aside0.mk ((by rw [hg]; exact (below_size (by repeat (first | (with_reducible first | exact HB.out | apply below_alloc | apply pw_below_drewN | apply below_drew1) | exact HB.out))) : w.heap.size ≤ gb793)); clear HB; have HB := n0_; have BK793 := n1_; have GW793 := n2_; have GE793 := n3_; clear n0_ n1_ n2_ n3_; clear hb hbox hg; have hcz6_0 : w5.cell? ⟨gb793, 0, none⟩ = some (.int .i64 a0_0) := (blk_cell BK793.out 0).trans rfl; have hcz6_1 : w5.cell? ⟨gb793, 1, none⟩ = some (.slice A0_1 l0_1.length c0_1) := (blk_cell BK793.out 1).trans rfl; have hfz6_0 := blk_frozen BK793.out 0; have hfz6_1 := blk_frozen BK793.out 1) | (go_at_call 41; (with_reducible refine (spec_BookOk.calls k a0_0 _ _ l0_1 true _ ?side1 ?side2 A2.out).mono ?_); (case side1 => repeat (first | exact (Kd.C_below HR0_1.out HB.out) | (with_reducible refine Kd.C_alloc ?_ _) | (with_reducible refine Kd.C_drewN ?_ _) | (with_reducible refine Kd.C_drew ?_))); (case side2 => exact HC0_1.out); rintro e w7 ⟨rfl, hb⟩; have n0_ := Aside0.mk (blk_below (g := gb793) (o := .cells #[.int .i64 a0_0, .slice A0_1 l0_1.length c0_1] 49 (0, 0)) (by (with_reducible repeat (first | refine blk_drewN ?_ _ | refine blk_drew ?_ | refine blk_alloc ?_ _)); exact BK793.out) hb); have n1_ := Aside0.mk (below_step (by repeat (first | (with_reducible first | exact HB.out | apply below_alloc | apply pw_below_drewN | apply below_drew1 | refine below_set ?_ GE793.out) | exact HB.out)) hb); clear BK793; clear HB; have BK793 := n0_; have HB := n1_; clear n0_ n1_; (try clear hb); (try clear hb2); (try clear hk); (try clear hi); have hcz8_0 : w7.cell? ⟨gb793, 0, none⟩ = some (.int .i64 a0_0) := (blk_cell BK793.out 0).trans rfl; have hcz8_1 : w7.cell? ⟨gb793, 1, none⟩ = some (.slice A0_1 l0_1.length c0_1) := (blk_cell BK793.out 1).trans rfl; have hfz8_0 := blk_frozen BK793.out 0; have hfz8_1 := blk_frozen BK793.out 1) | (go_at_call 97; (with_reducible refine (spec_l13Far.calls k a0_0 _ _ l0_1 a0_0 1 t795 _ ?side1 ?side2 A4.out).mono ?_); (case side1 => repeat (first | exact (Kd.C_below HR0_1.out HB.out) | (with_reducible refine Kd.C_alloc ?_ _) | (with_reducible refine Kd.C_drewN ?_ _) | (with_reducible refine Kd.C_drew ?_))); (case side2 => exact HC0_1.out); rintro e w9 ⟨v796, rfl, ho0, hb⟩; have n0_ := Aside0.mk (Kd.R_lower ho0 (below_size (by repeat (first | (with_reducible first | exact HB.out | apply below_alloc | apply pw_below_drewN | apply below_drew1 | refine below_set ?_ GE793.out) | exact HB.out)))); have n1_ := Aside0.mk (blk_below (g := gb793) (o := .cells #[.int .i64 a0_0, .slice A0_1 l0_1.length c0_1] 49 (0, 0)) (by (with_reducible repeat (first | refine blk_drewN ?_ _ | refine blk_drew ?_ | refine blk_alloc ?_ _)); exact BK793.out) hb); have n2_ := Aside0.mk (below_step (by repeat (first | (with_reducible first | exact HB.out | apply below_alloc | apply pw_below_drewN | apply below_drew1 | refine below_set ?_ GE793.out) | exact HB.out)) hb); clear BK793; clear HB; have HO797 := n0_; have BK793 := n1_; have HB := n2_; clear n0_ n1_ n2_; (try clear hb); (try clear hb2); (try clear hk); (try clear hi); (try clear ho0))); try go_wp2_with (first | ((with_reducible refine gate_dst (N := 1) rfl ?_); refine box_event ?hg (N := 1) ?hd (cs := #[.int .i64 a0_0, .slice A0_1 l0_1.length c0_1]) (t := 49) ?hr ?_; (case hd => rfl); (case hg => rfl); (case hr => first | (go_simp; done) | (go_simp; rfl)); intro gb793 hg w5 hbox hb; have n0_ := Aside0.mk (below_step (by repeat (first | (with_reducible first | exact HB.out | apply below_alloc | apply pw_below_drewN | apply below_drew1) | exact HB.out)) hb); have n1_ := Aside0.mk (hbox); have n2_ := Aside0.mk ((by rw [hg]; exact (below_size (by repeat (first | (with_reducible first | exact HB.out | apply below_alloc | apply pw_below_drewN | apply below_drew1) | exact HB.out))) : w.heap.size ≤ gb793)); have n3_ := Aside0.mk ((by rw [hg]; exact (below_size (by repeat (first | (with_reducible first | exact HB.out | apply below_alloc | apply pw_below_drewN | apply below_drew1) | exact HB.out))) : w.heap.size ≤ gb793)); clear HB; have HB := n0_; have BK793 := n1_; have GW793 := n2_; have GE793 := n3_; clear n0_ n1_ n2_ n3_; clear hb hbox hg; have hcz6_0 : w5.cell? ⟨gb793, 0, none⟩ = some (.int .i64 a0_0) := (blk_cell BK793.out 0).trans rfl; have hcz6_1 : w5.cell? ⟨gb793, 1, none⟩ = some (.slice A0_1 l0_1.length c0_1) := (blk_cell BK793.out 1).trans rfl; have hfz6_0 := blk_frozen BK793.out 0; have hfz6_1 := blk_frozen BK793.out 1) | (go_at_call 41; (with_reducible refine (spec_BookOk.calls k a0_0 _ _ l0_1 true _ ?side1 ?side2 A2.out).mono ?_); (case side1 => repeat (first | exact (Kd.C_below HR0_1.out HB.out) | (with_reducible refine Kd.C_alloc ?_ _) | (with_reducible refine Kd.C_drewN ?_ _) | (with_reducible refine Kd.C_drew ?_))); (case side2 => exact HC0_1.out); rintro e w7 ⟨rfl, hb⟩; have n0_ := Aside0.mk (blk_below (g := gb793) (o := .cells #[.int .i64 a0_0, .slice A0_1 l0_1.length c0_1] 49 (0, 0)) (by (with_reducible repeat (first | refine blk_drewN ?_ _ | refine blk_drew ?_ | refine blk_alloc ?_ _)); exact BK793.out) hb); have n1_ := Aside0.mk (below_step (by repeat (first | (with_reducible first | exact HB.out | apply below_alloc | apply pw_below_drewN | apply below_drew1 | refine below_set ?_ GE793.out) | exact HB.out)) hb); clear BK793; clear HB; have BK793 := n0_; have HB := n1_; clear n0_ n1_; (try clear hb); (try clear hb2); (try clear hk); (try clear hi); have hcz8_0 : w7.cell? ⟨gb793, 0, none⟩ = some (.int .i64 a0_0) := (blk_cell BK793.out 0).trans rfl; have hcz8_1 : w7.cell? ⟨gb793, 1, none⟩ = some (.slice A0_1 l0_1.length c0_1) := (blk_cell BK793.out 1).trans rfl; have hfz8_0 := blk_frozen BK793.out 0; have hfz8_1 := blk_frozen BK793.out 1) | (go_at_call 97; (with_reducible refine (spec_l13Far.calls k a0_0 _ _ l0_1 a0_0 1 t795 _ ?side1 ?side2 A4.out).mono ?_); (case side1 => repeat (first | exact (Kd.C_below HR0_1.out HB.out) | (with_reducible refine Kd.C_alloc ?_ _) | (with_reducible refine Kd.C_drewN ?_ _) | (with_reducible refine Kd.C_drew ?_))); (case side2 => exact HC0_1.out); rintro e w9 ⟨v796, rfl, ho0, hb⟩; have n0_ := Aside0.mk (Kd.R_lower ho0 (below_size (by repeat (first | (with_reducible first | exact HB.out | apply below_alloc | apply pw_below_drewN | apply below_drew1 | refine below_set ?_ GE793.out) | exact HB.out)))); have n1_ := Aside0.mk (blk_below (g := gb793) (o := .cells #[.int .i64 a0_0, .slice A0_1 l0_1.length c0_1] 49 (0, 0)) (by (with_reducible repeat (first | refine blk_drewN ?_ _ | refine blk_drew ?_ | refine blk_alloc ?_ _)); exact BK793.out) hb); have n2_ := Aside0.mk (below_step (by repeat (first | (with_reducible first | exact HB.out | apply below_alloc | apply pw_below_drewN | apply below_drew1 | refine below_set ?_ GE793.out) | exact HB.out)) hb); clear BK793; clear HB; have HO797 := n0_; have BK793 := n1_; have HB := n2_; clear n0_ n1_ n2_; (try clear hb); (try clear hb2); (try clear hk); (try clear hi); (try clear ho0))))
    go_loopg [4] k (fun kq v4 w' => ∃ (x4_1 : Int), v4 = .int .i64 x4_1 ∧ Aside0 (spec_Even.l0 kq t795 x4_1 = some r) ∧ Aside0 (kq ≤ k) ∧ Aside0 (Kd.R (Kd.int .i64) 3 w' w.heap.size (fun _ => True) v796 t795) ∧ Aside0 (w'.heap[gb793]? = some (.cells #[.int .i64 a0_0, (.slice A0_1 l0_1.length c0_1)] 49 (0, 0))) ∧ Aside0 (Below w.heap.size w w'))
    case atStart => exact ⟨(1), (by first | rfl | (simp; done) | (simp [*]; done)), H', ⟨Nat.le_refl _⟩, ⟨by (with_reducible repeat (first | apply Kd.R_alloc | apply Kd.R_drewN | apply Kd.R_drew)); exact HO797.out⟩, ⟨by (with_reducible repeat (first | refine blk_drewN ?_ _ | refine blk_drew ?_ | refine blk_alloc ?_ _)); exact BK793.out⟩, ⟨by repeat (first | (with_reducible first | exact HB.out | apply below_alloc | apply pw_below_drewN | apply below_drew1 | refine below_set ?_ GE793.out) | exact HB.out)⟩⟩
    case round =>
      clear H'
      try clear p2
      try clear c3
      try clear c4
      try clear hcz6_0
      try clear hcz6_1
      try clear hcz8_0
      try clear hcz8_1
      try clear hfz6_0
      try clear hfz6_1
      try clear hfz8_0
      try clear hfz8_1
      obtain ⟨x4_1, rfl, HA, HK1, HO_3, BK793, HB⟩ := hrel
      cases gk with
      | zero => exact absurd HA.out (by simp [spec_Even.l0])
      | succ k1 =>
        have H := HA.out
        clear HA
        simp only [spec_Even.l0] at H
        by_cases c10 : x4_1 < (t795.length : Int)
        · rw [if_pos c10] at H
          have c10b0 : decide (x4_1 < (t795.length : Int)) = true := decide_eq_true c10
          clear c10
          by_cases c11 : 0 ≤ x4_1
          · rw [if_pos c11] at H
            have c11b0 : decide (0 ≤ x4_1) = true := decide_eq_true c11
            clear c11
            by_cases c12 : 0 < (t795.length : Int)
            · rw [if_pos c12] at H
              have c12b0 : decide (0 < (t795.length : Int)) = true := decide_eq_true c12
              have c12b1 : decide (0 < t795.length) = true := decide_eq_true (by omega)
              clear c12
              by_cases c13 : (rd t795 x4_1) = (rd t795 0)
              · rw [if_pos c13] at H
                have c13b0 : ((rd t795 x4_1) == (rd t795 0)) = true := beq_iff_eq.mpr c13
                have c13b1 : ((rd t795 x4_1) != (rd t795 0)) = false := bne_eq_false_iff_eq.mpr c13
                clear c13
                have H' := Aside0.mk H
                clear H
                obtain ⟨Ao14, co14, eo14⟩ := Kd.R_slice HO_3.out
                subst eo14
                have p798 : 0 ≤ (x4_1 : Int) := of_decide_eq_true (by first | (with_reducible assumption) | assumption)
                have q798 : x4_1 < (t795.length : Int) := of_decide_eq_true (by first | (with_reducible assumption) | assumption)
                obtain ⟨ad798, e798, hx798_0⟩ := Kd.at_int (Kd.R_reads' HO_3.out).2.2 x4_1 p798 q798
                cases e798
                replace p798 := eq_true p798
                replace q798 := eq_true q798
                have p799 : 0 ≤ (0 : Int) := (by omega)
                have q799 : 0 < (t795.length : Int) := of_decide_eq_true (by first | (with_reducible assumption) | assumption)
                obtain ⟨ad799, e799, hx799_0⟩ := Kd.at_int (Kd.R_reads' HO_3.out).2.2 0 p799 q799
                obtain rfl : ad798 = ad799 := (by injection e799)
                have qi799 : (0 < t795.length) = True := eq_true (by omega)
                (try rw [show ((0 : Int)).toNat = 0 from rfl] at hx799_0)
                (try rw [Addr.add_zero'] at hx799_0)
                replace p799 := eq_true p799
                replace q799 := eq_true q799
                go_wp2
                repeat (go_quiet (fail); try go_wp2)
                go_roundg k1
                case measure => have := HK1.out; omega
                case rel => exact ⟨(wrap64 (x4_1 + 1)), (by first | rfl | (simp; done) | (simp [*]; done)), H', ⟨by have := HK1.out; omega⟩, ⟨by (with_reducible repeat (first | apply Kd.R_alloc | apply Kd.R_drewN | apply Kd.R_drew)); exact HO_3.out⟩, ⟨by (with_reducible repeat (first | refine blk_drewN ?_ _ | refine blk_drew ?_ | refine blk_alloc ?_ _)); exact BK793.out⟩, ⟨by repeat (first | (with_reducible first | exact HB.out | apply below_alloc | apply pw_below_drewN | apply below_drew1 | refine below_set ?_ GE793.out) | exact HB.out)⟩⟩
              · rw [if_neg c13] at H
                have c13b0 : ((rd t795 x4_1) == (rd t795 0)) = false := beq_eq_false_iff_ne.mpr c13
                have c13b1 : ((rd t795 x4_1) != (rd t795 0)) = true := bne_iff_ne.mpr c13
                obtain rfl := Option.some.inj H
                obtain ⟨Ao15, co15, eo15⟩ := Kd.R_slice HO_3.out
                subst eo15
                have p798 : 0 ≤ (x4_1 : Int) := of_decide_eq_true (by first | (with_reducible assumption) | assumption)
                have q798 : x4_1 < (t795.length : Int) := of_decide_eq_true (by first | (with_reducible assumption) | assumption)
                obtain ⟨ad798, e798, hx798_0⟩ := Kd.at_int (Kd.R_reads' HO_3.out).2.2 x4_1 p798 q798
                cases e798
                replace p798 := eq_true p798
                replace q798 := eq_true q798
                have p799 : 0 ≤ (0 : Int) := (by omega)
                have q799 : 0 < (t795.length : Int) := of_decide_eq_true (by first | (with_reducible assumption) | assumption)
                obtain ⟨ad799, e799, hx799_0⟩ := Kd.at_int (Kd.R_reads' HO_3.out).2.2 0 p799 q799
                obtain rfl : ad798 = ad799 := (by injection e799)
                have qi799 : (0 < t795.length) = True := eq_true (by omega)
                (try rw [show ((0 : Int)).toNat = 0 from rfl] at hx799_0)
                (try rw [Addr.add_zero'] at hx799_0)
                replace p799 := eq_true p799
                replace q799 := eq_true q799
                go_wp2
                repeat (go_quiet (fail); try go_wp2)
                go_ret
                exact ⟨by first | rfl | (simp [errW_none, errW_some] <;> rfl) | (simp [*, errW_none, errW_some] <;> rfl), by repeat (first | (with_reducible first | exact HB.out | apply below_alloc | apply pw_below_drewN | apply below_drew1 | refine below_set ?_ GE793.out) | exact HB.out)⟩
            · rw [if_neg c12] at H
              exact absurd H (by simp)
          · rw [if_neg c11] at H
            exact absurd H (by simp)
        · rw [if_neg c10] at H
          have c10b0 : decide (x4_1 < (t795.length : Int)) = false := decide_eq_false c10
          clear c10
          obtain rfl := Option.some.inj H
          obtain ⟨Ao16, co16, eo16⟩ := Kd.R_slice HO_3.out
          subst eo16
          go_wp2
          repeat (go_quiet (fail); try go_wp2)
          go_ret
          exact ⟨by first | rfl | (simp [errW_none, errW_some] <;> rfl) | (simp [*, errW_none, errW_some] <;> rfl), by repeat (first | (with_reducible first | exact HB.out | apply below_alloc | apply pw_below_drewN | apply below_drew1 | refine below_set ?_ GE793.out) | exact HB.out)⟩
  · replace c3 := Bool.eq_false_iff.mpr c3
    subst c3
    have H1 : (some false) = some r := by rw [if_neg (show ¬ (false = true) by decide)] at H; exact H
    clear H
    have H := H1
    clear H1
    obtain rfl := Option.some.inj H
    go_enter Try.func45, Try.ntmps45
    go_wp2_with (first | ((with_reducible refine gate_dst (N := 1) rfl ?_); refine box_event ?hg (N := 1) ?hd (cs := #[.int .i64 a0_0, .slice A0_1 l0_1.length c0_1]) (t := 49) ?hr ?_; (case hd => rfl); (case hg => rfl); (case hr => first | (go_simp; done) | (go_simp; rfl)); intro gb793 hg w17 hbox hb; have n0_ := Aside0.mk (below_step (by repeat (first | (with_reducible first | exact HB.out | apply below_alloc | apply pw_below_drewN | apply below_drew1) | exact HB.out)) hb); have n1_ := Aside0.mk (hbox); have n2_ := Aside0.mk ((by rw [hg]; exact (below_size (by repeat (first | (with_reducible first | exact HB.out | apply below_alloc | apply pw_below_drewN | apply below_drew1) | exact HB.out))) : w.heap.size ≤ gb793)); have n3_ := Aside0.mk ((by rw [hg]; exact (below_size (by repeat (first | (with_reducible first | exact HB.out | apply below_alloc | apply pw_below_drewN | apply below_drew1) | exact HB.out))) : w.heap.size ≤ gb793)); clear HB; have HB := n0_; have BK793 := n1_; have GW793 := n2_; have GE793 := n3_; clear n0_ n1_ n2_ n3_; clear hb hbox hg; have hcz18_0 : w17.cell? ⟨gb793, 0, none⟩ = some (.int .i64 a0_0) := (blk_cell BK793.out 0).trans rfl; have hcz18_1 : w17.cell? ⟨gb793, 1, none⟩ = some (.slice A0_1 l0_1.length c0_1) := (blk_cell BK793.out 1).trans rfl; have hfz18_0 := blk_frozen BK793.out 0; have hfz18_1 := blk_frozen BK793.out 1) | (go_at_call 41; (with_reducible refine (spec_BookOk.calls k a0_0 _ _ l0_1 false _ ?side1 ?side2 A2.out).mono ?_); (case side1 => repeat (first | exact (Kd.C_below HR0_1.out HB.out) | (with_reducible refine Kd.C_alloc ?_ _) | (with_reducible refine Kd.C_drewN ?_ _) | (with_reducible refine Kd.C_drew ?_))); (case side2 => exact HC0_1.out); rintro e w19 ⟨rfl, hb⟩; have n0_ := Aside0.mk (blk_below (g := gb793) (o := .cells #[.int .i64 a0_0, .slice A0_1 l0_1.length c0_1] 49 (0, 0)) (by (with_reducible repeat (first | refine blk_drewN ?_ _ | refine blk_drew ?_ | refine blk_alloc ?_ _)); exact BK793.out) hb); have n1_ := Aside0.mk (below_step (by repeat (first | (with_reducible first | exact HB.out | apply below_alloc | apply pw_below_drewN | apply below_drew1 | refine below_set ?_ GE793.out) | exact HB.out)) hb); clear BK793; clear HB; have BK793 := n0_; have HB := n1_; clear n0_ n1_; (try clear hb); (try clear hb2); (try clear hk); (try clear hi)))
    repeat (go_quiet (first | ((with_reducible refine gate_dst (N := 1) rfl ?_); refine box_event ?hg (N := 1) ?hd (cs := #[.int .i64 a0_0, .slice A0_1 l0_1.length c0_1]) (t := 49) ?hr ?_; (case hd => rfl); (case hg => rfl); (case hr => first | (go_simp; done) | (go_simp; rfl)); intro gb793 hg w17 hbox hb; have n0_ := Aside0.mk (below_step (by repeat (first | (with_reducible first | exact HB.out | apply below_alloc | apply pw_below_drewN | apply below_drew1) | exact HB.out)) hb); have n1_ := Aside0.mk (hbox); have n2_ := Aside0.mk ((by rw [hg]; exact (below_size (by repeat (first | (with_reducible first | exact HB.out | apply below_alloc | apply pw_below_drewN | apply below_drew1) | exact HB.out))) : w.heap.size ≤ gb793)); have n3_ := Aside0.mk ((by rw [hg]; exact (below_size (by repeat (first | (with_reducible first | exact HB.out | apply below_alloc | apply pw_below_drewN | apply below_drew1) | exact HB.out))) : w.heap.size ≤ gb793)); clear HB; have HB := n0_; have BK793 := n1_; have GW793 := n2_; have GE793 := n3_; clear n0_ n1_ n2_ n3_; clear hb hbox hg; have hcz18_0 : w17.cell? ⟨gb793, 0, none⟩ = some (.int .i64 a0_0) := (blk_cell BK793.out 0).trans rfl; have hcz18_1 : w17.cell? ⟨gb793, 1, none⟩ = some (.slice A0_1 l0_1.length c0_1) := (blk_cell BK793.out 1).trans rfl; have hfz18_0 := blk_frozen BK793.out 0; have hfz18_1 := blk_frozen BK793.out 1) | (go_at_call 41; (with_reducible refine (spec_BookOk.calls k a0_0 _ _ l0_1 false _ ?side1 ?side2 A2.out).mono ?_); (case side1 => repeat (first | exact (Kd.C_below HR0_1.out HB.out) | (with_reducible refine Kd.C_alloc ?_ _) | (with_reducible refine Kd.C_drewN ?_ _) | (with_reducible refine Kd.C_drew ?_))); (case side2 => exact HC0_1.out); rintro e w19 ⟨rfl, hb⟩; have n0_ := Aside0.mk (blk_below (g := gb793) (o := .cells #[.int .i64 a0_0, .slice A0_1 l0_1.length c0_1] 49 (0, 0)) (by (with_reducible repeat (first | refine blk_drewN ?_ _ | refine blk_drew ?_ | refine blk_alloc ?_ _)); exact BK793.out) hb); have n1_ := Aside0.mk (below_step (by repeat (first | (with_reducible first | exact HB.out | apply below_alloc | apply pw_below_drewN | apply below_drew1 | refine below_set ?_ GE793.out) | exact HB.out)) hb); clear BK793; clear HB; have BK793 := n0_; have HB := n1_; clear n0_ n1_; (try clear hb); (try clear hb2); (try clear hk); (try clear hi))); try go_wp2_with (first | ((with_reducible refine gate_dst (N := 1) rfl ?_); refine box_event ?hg (N := 1) ?hd (cs := #[.int .i64 a0_0, .slice A0_1 l0_1.length c0_1]) (t := 49) ?hr ?_; (case hd => rfl); (case hg => rfl); (case hr => first | (go_simp; done) | (go_simp; rfl)); intro gb793 hg w17 hbox hb; have n0_ := Aside0.mk (below_step (by repeat (first | (with_reducible first | exact HB.out | apply below_alloc | apply pw_below_drewN | apply below_drew1) | exact HB.out)) hb); have n1_ := Aside0.mk (hbox); have n2_ := Aside0.mk ((by rw [hg]; exact (below_size (by repeat (first | (with_reducible first | exact HB.out | apply below_alloc | apply pw_below_drewN | apply below_drew1) | exact HB.out))) : w.heap.size ≤ gb793)); have n3_ := Aside0.mk ((by rw [hg]; exact (below_size (by repeat (first | (with_reducible first | exact HB.out | apply below_alloc | apply pw_below_drewN | apply below_drew1) | exact HB.out))) : w.heap.size ≤ gb793)); clear HB; have HB := n0_; have BK793 := n1_; have GW793 := n2_; have GE793 := n3_; clear n0_ n1_ n2_ n3_; clear hb hbox hg; have hcz18_0 : w17.cell? ⟨gb793, 0, none⟩ = some (.int .i64 a0_0) := (blk_cell BK793.out 0).trans rfl; have hcz18_1 : w17.cell? ⟨gb793, 1, none⟩ = some (.slice A0_1 l0_1.length c0_1) := (blk_cell BK793.out 1).trans rfl; have hfz18_0 := blk_frozen BK793.out 0; have hfz18_1 := blk_frozen BK793.out 1) | (go_at_call 41; (with_reducible refine (spec_BookOk.calls k a0_0 _ _ l0_1 false _ ?side1 ?side2 A2.out).mono ?_); (case side1 => repeat (first | exact (Kd.C_below HR0_1.out HB.out) | (with_reducible refine Kd.C_alloc ?_ _) | (with_reducible refine Kd.C_drewN ?_ _) | (with_reducible refine Kd.C_drew ?_))); (case side2 => exact HC0_1.out); rintro e w19 ⟨rfl, hb⟩; have n0_ := Aside0.mk (blk_below (g := gb793) (o := .cells #[.int .i64 a0_0, .slice A0_1 l0_1.length c0_1] 49 (0, 0)) (by (with_reducible repeat (first | refine blk_drewN ?_ _ | refine blk_drew ?_ | refine blk_alloc ?_ _)); exact BK793.out) hb); have n1_ := Aside0.mk (below_step (by repeat (first | (with_reducible first | exact HB.out | apply below_alloc | apply pw_below_drewN | apply below_drew1 | refine below_set ?_ GE793.out) | exact HB.out)) hb); clear BK793; clear HB; have BK793 := n0_; have HB := n1_; clear n0_ n1_; (try clear hb); (try clear hb2); (try clear hk); (try clear hi))))
    go_ret
    exact ⟨by first | rfl | (simp [errW_none, errW_some] <;> rfl) | (simp [*, errW_none, errW_some] <;> rfl), by repeat (first | (with_reducible first | exact HB.out | apply below_alloc | apply pw_below_drewN | apply below_drew1 | refine below_set ?_ GE793.out) | exact HB.out)⟩

end Go.Proofs.Ytngjaajcdbodeaa.All

namespace Go.Proofs.Ytngjaajcdbodeaa.All
open Go.RowKit Go.Proofs.YtngjaajcdbodeaaW.PrintWords Go.Proofs.YtngjaajcdbodeaaW.PrintLast Go.Proofs.YtngjaajcdbodeaaW.PrintMore
attribute [local go_sem] max2_int min2_int max_two min_two max_three min_three max_four min_four   -- for this text's walks alone
set_option linter.unusedVariables false
set_option linter.unusedSimpArgs false

/-! ### laws_FnExactEven: function 9 -/
def laws_FnExactEven.f (k : Nat) (a0_0 : Int) (l0_1 : List (S118)) : Option (Bool) := (laws_szBook.f k a0_0 l0_1 1048576).bind fun t801 => (if t801 < 0 then (some true) else ((laws_toBook.f k a0_0 l0_1).bind fun bt802 => ((spec_Even.f k bt802.1 bt802.2).bind fun t806 => ((laws_toBook.f k a0_0 l0_1).bind fun bt807 => ((impl_Even.f k bt807.1 bt807.2).bind fun t812 => (if (t812 != t806) = true then (some false) else ((laws_toBook.f k a0_0 l0_1).bind fun bt813 => ((laws_eqBook.f k bt807.1 bt807.2 bt813.1 bt813.2).bind fun t817 => (if t817 = true then (some true) else (some false))))))))))
theorem laws_FnExactEven.mono : ∀ a0 a1 k, LeO (laws_FnExactEven.f k a0 a1) (laws_FnExactEven.f (k + 1) a0 a1) := by
  intro a0 a1 k
  unfold laws_FnExactEven.f
  repeat' first
      | (with_reducible exact impl_Even.mono _ _ _)
      | (with_reducible exact laws_eqBook.mono _ _ _ _ _)
      | (with_reducible exact laws_szBook.mono _ _ _ _)
      | (with_reducible exact laws_toBook.mono _ _ _)
      | (with_reducible exact spec_Even.mono _ _ _)
      | (with_reducible exact LeO.refl _)
      | (with_reducible exact LeO.none _)
      | (with_reducible refine LeO.ite ?_ ?_)
      | (with_reducible refine LeO.bind ?_ (fun _ => ?_))
      | exact impl_Even.mono _ _ _
      | exact laws_eqBook.mono _ _ _ _ _
      | exact laws_szBook.mono _ _ _ _
      | exact laws_toBook.mono _ _ _
      | exact spec_Even.mono _ _ _
      | exact LeO.none _
      | refine LeO.ite ?_ ?_
      | refine LeO.bind ?_ (fun _ => ?_)
set_option maxHeartbeats 8000000 in
set_option maxRecDepth 100000 in
theorem laws_FnExactEven.calls (k : Nat) (a0_0 : Int) (A0_1 : Option Addr) (c0_1 : Nat) (l0_1 : List (S118)) (r : Bool) (w : World) (hr0_1 : Kd.C k118 w A0_1 l0_1.length l0_1) (hc0_1 : l0_1.length ≤ c0_1) (h : laws_FnExactEven.f k a0_0 l0_1 = some r) :
    Calls Try.prog 9 #[.agg #[.int .i64 a0_0, .slice A0_1 l0_1.length c0_1]] w fun e w' => e = .returned (.bool r) ∧ Below w.heap.size w w' := by
  have hu41 := Try.underlying41
  have hu49 := Try.underlying49
  have HR0_1 := Aside0.mk hr0_1
  have HC0_1 := Aside0.mk hc0_1
  clear hr0_1 hc0_1
  have HB := Aside0.mk (Below.refl w.heap.size w)
  have H : ((laws_szBook.f k a0_0 l0_1 1048576).bind fun t801 => (if t801 < 0 then (some true) else ((laws_toBook.f k a0_0 l0_1).bind fun bt802 => ((spec_Even.f k bt802.1 bt802.2).bind fun t806 => ((laws_toBook.f k a0_0 l0_1).bind fun bt807 => ((impl_Even.f k bt807.1 bt807.2).bind fun t812 => (if (t812 != t806) = true then (some false) else ((laws_toBook.f k a0_0 l0_1).bind fun bt813 => ((laws_eqBook.f k bt807.1 bt807.2 bt813.1 bt813.2).bind fun t817 => (if t817 = true then (some true) else (some false))))))))))) = some r := h
  clear h
  replace H := Option.bind_eq_some_iff.mp H
  obtain ⟨t801, A20, H⟩ := H
  replace H : (if t801 < 0 then (some true) else ((laws_toBook.f k a0_0 l0_1).bind fun bt802 => ((spec_Even.f k bt802.1 bt802.2).bind fun t806 => ((laws_toBook.f k a0_0 l0_1).bind fun bt807 => ((impl_Even.f k bt807.1 bt807.2).bind fun t812 => (if (t812 != t806) = true then (some false) else ((laws_toBook.f k a0_0 l0_1).bind fun bt813 => ((laws_eqBook.f k bt807.1 bt807.2 bt813.1 bt813.2).bind fun t817 => (if t817 = true then (some true) else (some false)))))))))) = some r := H
  have A2 := Aside0.mk A20
  clear A20
  by_cases c3 : t801 < 0
  · rw [if_pos c3] at H
    have c3b0 : decide (t801 < 0) = true := decide_eq_true c3
    clear c3
    obtain rfl := Option.some.inj H
    go_enter Try.func9, Try.ntmps9
    go_wp2_with (first | ((with_reducible refine gate_dst (N := 1) rfl ?_); refine box_event ?hg (N := 1) ?hd (cs := #[.int .i64 a0_0, .slice A0_1 l0_1.length c0_1]) (t := 41) ?hr ?_; (case hd => rfl); (case hg => rfl); (case hr => first | (go_simp; done) | (go_simp; rfl)); intro gb800 hg w4 hbox hb; have n0_ := Aside0.mk (below_step (by repeat (first | (with_reducible first | exact HB.out | apply below_alloc | apply pw_below_drewN | apply below_drew1) | exact HB.out)) hb); have n1_ := Aside0.mk (hbox); have n2_ := Aside0.mk ((by rw [hg]; exact (below_size (by repeat (first | (with_reducible first | exact HB.out | apply below_alloc | apply pw_below_drewN | apply below_drew1) | exact HB.out))) : w.heap.size ≤ gb800)); have n3_ := Aside0.mk ((by rw [hg]; exact (below_size (by repeat (first | (with_reducible first | exact HB.out | apply below_alloc | apply pw_below_drewN | apply below_drew1) | exact HB.out))) : w.heap.size ≤ gb800)); clear HB; have HB := n0_; have BK800 := n1_; have GW800 := n2_; have GE800 := n3_; clear n0_ n1_ n2_ n3_; clear hb hbox hg; have hcz5_0 : w4.cell? ⟨gb800, 0, none⟩ = some (.int .i64 a0_0) := (blk_cell BK800.out 0).trans rfl; have hcz5_1 : w4.cell? ⟨gb800, 1, none⟩ = some (.slice A0_1 l0_1.length c0_1) := (blk_cell BK800.out 1).trans rfl; have hfz5_0 := blk_frozen BK800.out 0; have hfz5_1 := blk_frozen BK800.out 1) | ((with_reducible refine gate_callee (f := 23) rfl ?_); refine goesL_ (some 9) rfl rfl Try.func23 (by kernel_rfl) rfl #[.agg #[.int .i64 a0_0, .slice A0_1 l0_1.length c0_1], .int .i64 1048576] rfl (by (try simp only [List.map_toArray, List.map_cons, List.map_nil]); first | done | rfl | (simp only [List.length_drop, List.length_take]; rfl)) ?_; (with_reducible refine (laws_szBook.calls k a0_0 _ _ l0_1 1048576 t801 _ ?side1 ?side2 A2.out).mono ?_); (case side1 => repeat (first | exact (Kd.C_below HR0_1.out HB.out) | (with_reducible refine Kd.C_alloc ?_ _) | (with_reducible refine Kd.C_drewN ?_ _) | (with_reducible refine Kd.C_drew ?_))); (case side2 => exact HC0_1.out); rintro e w6 ⟨rfl, hb⟩; refine ⟨_, rfl, ?_⟩; have n0_ := Aside0.mk (blk_below (g := gb800) (o := .cells #[.int .i64 a0_0, .slice A0_1 l0_1.length c0_1] 41 (0, 0)) (by (with_reducible repeat (first | refine blk_drewN ?_ _ | refine blk_drew ?_ | refine blk_alloc ?_ _)); exact BK800.out) hb); have n1_ := Aside0.mk (below_step (by repeat (first | (with_reducible first | exact HB.out | apply below_alloc | apply pw_below_drewN | apply below_drew1 | refine below_set ?_ GE800.out) | exact HB.out)) hb); clear BK800; clear HB; have BK800 := n0_; have HB := n1_; clear n0_ n1_; (try clear hb); (try clear hb2); (try clear hk); (try clear hi)))
    go_ret
    exact ⟨by first | rfl | (simp [errW_none, errW_some] <;> rfl) | (simp [*, errW_none, errW_some] <;> rfl), by repeat (first | (with_reducible first | exact HB.out | apply below_alloc | apply pw_below_drewN | apply below_drew1 | refine below_set ?_ GE800.out) | exact HB.out)⟩
  · rw [if_neg c3] at H
    have c3b0 : decide (t801 < 0) = false := decide_eq_false c3
    clear c3
    replace H := Option.bind_eq_some_iff.mp H
    obtain ⟨⟨t802, t803⟩, A70, H⟩ := H
    replace H : ((spec_Even.f k t802 t803).bind fun t806 => ((laws_toBook.f k a0_0 l0_1).bind fun bt807 => ((impl_Even.f k bt807.1 bt807.2).bind fun t812 => (if (t812 != t806) = true then (some false) else ((laws_toBook.f k a0_0 l0_1).bind fun bt813 => ((laws_eqBook.f k bt807.1 bt807.2 bt813.1 bt813.2).bind fun t817 => (if t817 = true then (some true) else (some false)))))))) = some r := H
    have A7 := Aside0.mk A70
    clear A70
    replace H := Option.bind_eq_some_iff.mp H
    obtain ⟨t806, A80, H⟩ := H
    replace H : ((laws_toBook.f k a0_0 l0_1).bind fun bt807 => ((impl_Even.f k bt807.1 bt807.2).bind fun t812 => (if (t812 != t806) = true then (some false) else ((laws_toBook.f k a0_0 l0_1).bind fun bt813 => ((laws_eqBook.f k bt807.1 bt807.2 bt813.1 bt813.2).bind fun t817 => (if t817 = true then (some true) else (some false))))))) = some r := H
    have A8 := Aside0.mk A80
    clear A80
    replace H := Option.bind_eq_some_iff.mp H
    obtain ⟨⟨t807, t808⟩, A90, H⟩ := H
    replace H : ((impl_Even.f k t807 t808).bind fun t812 => (if (t812 != t806) = true then (some false) else ((laws_toBook.f k a0_0 l0_1).bind fun bt813 => ((laws_eqBook.f k t807 t808 bt813.1 bt813.2).bind fun t817 => (if t817 = true then (some true) else (some false)))))) = some r := H
    have A9 := Aside0.mk A90
    clear A90
    replace H := Option.bind_eq_some_iff.mp H
    obtain ⟨t812, A100, H⟩ := H
    replace H : (if (t812 != t806) = true then (some false) else ((laws_toBook.f k a0_0 l0_1).bind fun bt813 => ((laws_eqBook.f k t807 t808 bt813.1 bt813.2).bind fun t817 => (if t817 = true then (some true) else (some false))))) = some r := H
    have A10 := Aside0.mk A100
    clear A100
    by_cases c11 : (t812 != t806) = true
    · rw [if_pos c11] at H
      have c11b0 : (t812 != t806) = true := c11
      (try (have c11b1 : decide (t812 = t806) = false := by simpa using c11))
      (try (have c11b2 : (t812 == t806) = false := by simpa using c11))
      (try (have c11b3 : ¬ (t812 = t806) := by simpa using c11))
      clear c11
      obtain rfl := Option.some.inj H
      go_enter Try.func9, Try.ntmps9
      go_wp2_with (first | ((with_reducible refine gate_dst (N := 1) rfl ?_); refine box_event ?hg (N := 1) ?hd (cs := #[.int .i64 a0_0, .slice A0_1 l0_1.length c0_1]) (t := 41) ?hr ?_; (case hd => rfl); (case hg => rfl); (case hr => first | (go_simp; done) | (go_simp; rfl)); intro gb800 hg w12 hbox hb; have n0_ := Aside0.mk (below_step (by repeat (first | (with_reducible first | exact HB.out | apply below_alloc | apply pw_below_drewN | apply below_drew1) | exact HB.out)) hb); have n1_ := Aside0.mk (hbox); have n2_ := Aside0.mk ((by rw [hg]; exact (below_size (by repeat (first | (with_reducible first | exact HB.out | apply below_alloc | apply pw_below_drewN | apply below_drew1) | exact HB.out))) : w.heap.size ≤ gb800)); have n3_ := Aside0.mk ((by rw [hg]; exact (below_size (by repeat (first | (with_reducible first | exact HB.out | apply below_alloc | apply pw_below_drewN | apply below_drew1) | exact HB.out))) : w.heap.size ≤ gb800)); clear HB; have HB := n0_; have BK800 := n1_; have GW800 := n2_; have GE800 := n3_; clear n0_ n1_ n2_ n3_; clear hb hbox hg; have hcz13_0 : w12.cell? ⟨gb800, 0, none⟩ = some (.int .i64 a0_0) := (blk_cell BK800.out 0).trans rfl; have hcz13_1 : w12.cell? ⟨gb800, 1, none⟩ = some (.slice A0_1 l0_1.length c0_1) := (blk_cell BK800.out 1).trans rfl; have hfz13_0 := blk_frozen BK800.out 0; have hfz13_1 := blk_frozen BK800.out 1) | ((with_reducible refine gate_callee (f := 23) rfl ?_); refine goesL_ (some 9) rfl rfl Try.func23 (by kernel_rfl) rfl #[.agg #[.int .i64 a0_0, .slice A0_1 l0_1.length c0_1], .int .i64 1048576] rfl (by (try simp only [List.map_toArray, List.map_cons, List.map_nil]); first | done | rfl | (simp only [List.length_drop, List.length_take]; rfl)) ?_; (with_reducible refine (laws_szBook.calls k a0_0 _ _ l0_1 1048576 t801 _ ?side1 ?side2 A2.out).mono ?_); (case side1 => repeat (first | exact (Kd.C_below HR0_1.out HB.out) | (with_reducible refine Kd.C_alloc ?_ _) | (with_reducible refine Kd.C_drewN ?_ _) | (with_reducible refine Kd.C_drew ?_))); (case side2 => exact HC0_1.out); rintro e w14 ⟨rfl, hb⟩; refine ⟨_, rfl, ?_⟩; have n0_ := Aside0.mk (blk_below (g := gb800) (o := .cells #[.int .i64 a0_0, .slice A0_1 l0_1.length c0_1] 41 (0, 0)) (by (with_reducible repeat (first | refine blk_drewN ?_ _ | refine blk_drew ?_ | refine blk_alloc ?_ _)); exact BK800.out) hb); have n1_ := Aside0.mk (below_step (by repeat (first | (with_reducible first | exact HB.out | apply below_alloc | apply pw_below_drewN | apply below_drew1 | refine below_set ?_ GE800.out) | exact HB.out)) hb); clear BK800; clear HB; have BK800 := n0_; have HB := n1_; clear n0_ n1_; (try clear hb); (try clear hb2); (try clear hk); (try clear hi); have hcz15_0 : w14.cell? ⟨gb800, 0, none⟩ = some (.int .i64 a0_0) := (blk_cell BK800.out 0).trans rfl; have hcz15_1 : w14.cell? ⟨gb800, 1, none⟩ = some (.slice A0_1 l0_1.length c0_1) := (blk_cell BK800.out 1).trans rfl; have hfz15_0 := blk_frozen BK800.out 0; have hfz15_1 := blk_frozen BK800.out 1) | ((with_reducible refine gate_callee (f := 26) rfl ?_); refine goesL_ (some 13) rfl rfl Try.func26 (by kernel_rfl) rfl #[.agg #[.int .i64 a0_0, .slice A0_1 l0_1.length c0_1]] rfl (by (try simp only [List.map_toArray, List.map_cons, List.map_nil]); first | done | rfl | (simp only [List.length_drop, List.length_take]; rfl)) ?_; (with_reducible refine (laws_toBook.calls k a0_0 _ _ l0_1 t802 t803 _ ?side1 ?side2 A7.out).mono ?_); (case side1 => repeat (first | exact (Kd.C_below HR0_1.out HB.out) | (with_reducible refine Kd.C_alloc ?_ _) | (with_reducible refine Kd.C_drewN ?_ _) | (with_reducible refine Kd.C_drew ?_))); (case side2 => exact HC0_1.out); rintro e w16 ⟨v804, rfl, ho0, hb⟩; refine ⟨_, rfl, ?_⟩; have n0_ := Aside0.mk (Kd.S_lower ho0 (below_size (by repeat (first | (with_reducible first | exact HB.out | apply below_alloc | apply pw_below_drewN | apply below_drew1 | refine below_set ?_ GE800.out) | exact HB.out)))); have n1_ := Aside0.mk (blk_below (g := gb800) (o := .cells #[.int .i64 a0_0, .slice A0_1 l0_1.length c0_1] 41 (0, 0)) (by (with_reducible repeat (first | refine blk_drewN ?_ _ | refine blk_drew ?_ | refine blk_alloc ?_ _)); exact BK800.out) hb); have n2_ := Aside0.mk (below_step (by repeat (first | (with_reducible first | exact HB.out | apply below_alloc | apply pw_below_drewN | apply below_drew1 | refine below_set ?_ GE800.out) | exact HB.out)) hb); clear BK800; clear HB; have HO805 := n0_; have BK800 := n1_; have HB := n2_; clear n0_ n1_ n2_; (try clear hb); (try clear hb2); (try clear hk); (try clear hi); (try clear ho0); obtain ⟨Ao17, co17, eo17⟩ := Kd.S_slice HO805.out; subst eo17) | ((with_reducible refine gate_callee (f := 45) rfl ?_); refine goesL_ (some 14) rfl rfl Try.func45 (by kernel_rfl) rfl #[.agg #[.int .i64 t802, .slice Ao17 t803.length co17]] rfl (by (try simp only [List.map_toArray, List.map_cons, List.map_nil]); first | done | rfl | (simp only [List.length_drop, List.length_take]; rfl)) ?_; (with_reducible refine (spec_Even.calls k t802 _ _ t803 t806 _ ?side1 ?side2 A8.out).mono ?_); (case side1 => repeat (first | exact (Kd.S_reads' HO805.out).2.2 | (with_reducible refine Kd.C_alloc ?_ _) | (with_reducible refine Kd.C_drewN ?_ _) | (with_reducible refine Kd.C_drew ?_))); (case side2 => exact (Kd.S_reads' HO805.out).2.1); rintro e w18 ⟨rfl, hb⟩; refine ⟨_, rfl, ?_⟩; have n0_ := Aside0.mk (Kd.S_below (by (with_reducible repeat (first | apply Kd.S_alloc | apply Kd.S_drewN | apply Kd.S_drew)); exact HO805.out) hb); have n1_ := Aside0.mk (blk_below (g := gb800) (o := .cells #[.int .i64 a0_0, .slice A0_1 l0_1.length c0_1] 41 (0, 0)) (by (with_reducible repeat (first | refine blk_drewN ?_ _ | refine blk_drew ?_ | refine blk_alloc ?_ _)); exact BK800.out) hb); have n2_ := Aside0.mk (below_step (by repeat (first | (with_reducible first | exact HB.out | apply below_alloc | apply pw_below_drewN | apply below_drew1 | refine below_set ?_ GE800.out) | exact HB.out)) hb); clear HO805; clear BK800; clear HB; have HO805 := n0_; have BK800 := n1_; have HB := n2_; clear n0_ n1_ n2_; (try clear hb); (try clear hb2); (try clear hk); (try clear hi); have hcz19_0 : w18.cell? ⟨gb800, 0, none⟩ = some (.int .i64 a0_0) := (blk_cell BK800.out 0).trans rfl; have hcz19_1 : w18.cell? ⟨gb800, 1, none⟩ = some (.slice A0_1 l0_1.length c0_1) := (blk_cell BK800.out 1).trans rfl; have hfz19_0 := blk_frozen BK800.out 0; have hfz19_1 := blk_frozen BK800.out 1) | ((with_reducible refine gate_callee (f := 26) rfl ?_); refine goesL_ (some 16) rfl rfl Try.func26 (by kernel_rfl) rfl #[.agg #[.int .i64 a0_0, .slice A0_1 l0_1.length c0_1]] rfl (by (try simp only [List.map_toArray, List.map_cons, List.map_nil]); first | done | rfl | (simp only [List.length_drop, List.length_take]; rfl)) ?_; (with_reducible refine (laws_toBook.calls k a0_0 _ _ l0_1 t807 t808 _ ?side1 ?side2 A9.out).mono ?_); (case side1 => repeat (first | exact (Kd.C_below HR0_1.out HB.out) | (with_reducible refine Kd.C_alloc ?_ _) | (with_reducible refine Kd.C_drewN ?_ _) | (with_reducible refine Kd.C_drew ?_))); (case side2 => exact HC0_1.out); rintro e w20 ⟨v809, rfl, ho0, hb⟩; refine ⟨_, rfl, ?_⟩; have n0_ := Aside0.mk (Kd.S_elder' (by (with_reducible repeat (first | apply Kd.S_alloc | apply Kd.S_drewN | apply Kd.S_drew)); exact HO805.out) (Kd.S_base ho0) hb); have n1_ := Aside0.mk (Kd.S_lower (Kd.S_new' ho0 (Kd.S_lt (by (with_reducible repeat (first | apply Kd.S_alloc | apply Kd.S_drewN | apply Kd.S_drew)); exact HO805.out))) (below_size (by repeat (first | (with_reducible first | exact HB.out | apply below_alloc | apply pw_below_drewN | apply below_drew1 | refine below_set ?_ GE800.out) | exact HB.out)))); have n2_ := Aside0.mk (blk_below (g := gb800) (o := .cells #[.int .i64 a0_0, .slice A0_1 l0_1.length c0_1] 41 (0, 0)) (by (with_reducible repeat (first | refine blk_drewN ?_ _ | refine blk_drew ?_ | refine blk_alloc ?_ _)); exact BK800.out) hb); have n3_ := Aside0.mk (below_step (by repeat (first | (with_reducible first | exact HB.out | apply below_alloc | apply pw_below_drewN | apply below_drew1 | refine below_set ?_ GE800.out) | exact HB.out)) hb); clear HO805; clear BK800; clear HB; have HO805 := n0_; have HO810 := n1_; have BK800 := n2_; have HB := n3_; clear n0_ n1_ n2_ n3_; (try clear hb); (try clear hb2); (try clear hk); (try clear hi); (try clear ho0)) | ((with_reducible refine gate_dst (N := 5) rfl ?_); refine box_event ?hg (N := 5) ?hd (cs := #[.int .i64 0, .slice none 0 0]) (t := 49) ?hr ?_; (case hd => rfl); (case hg => rfl); (case hr => first | (go_simp; done) | (go_simp; rfl)); intro gb811 hg w21 hbox hb; have n0_ := Aside0.mk (Kd.S_below (by (with_reducible repeat (first | apply Kd.S_alloc | apply Kd.S_drewN | apply Kd.S_drew)); exact HO805.out) hb); have n1_ := Aside0.mk (Kd.S_below (by (with_reducible repeat (first | apply Kd.S_alloc | apply Kd.S_drewN | apply Kd.S_drew)); exact HO810.out) hb); have n2_ := Aside0.mk (blk_below (g := gb800) (o := .cells #[.int .i64 a0_0, .slice A0_1 l0_1.length c0_1] 41 (0, 0)) (by (with_reducible repeat (first | refine blk_drewN ?_ _ | refine blk_drew ?_ | refine blk_alloc ?_ _)); exact BK800.out) hb); have n3_ := Aside0.mk (below_step (by repeat (first | (with_reducible first | exact HB.out | apply below_alloc | apply pw_below_drewN | apply below_drew1 | refine below_set ?_ GE800.out) | exact HB.out)) hb); have n4_ := Aside0.mk (hbox); have n5_ := Aside0.mk ((by rw [hg]; exact (below_size (by repeat (first | (with_reducible first | exact HB.out | apply below_alloc | apply pw_below_drewN | apply below_drew1 | refine below_set ?_ GE800.out) | exact HB.out))) : w.heap.size ≤ gb811)); have n6_ := Aside0.mk ((by rw [hg]; exact (below_size (by repeat (first | (with_reducible first | exact HB.out | apply below_alloc | apply pw_below_drewN | apply below_drew1 | refine below_set ?_ GE800.out) | exact HB.out))) : w.heap.size ≤ gb811)); have n7_ := Aside0.mk ((by rw [hg]; exact Nat.ne_of_lt (blk_lt (g := gb800) (o := .cells #[.int .i64 a0_0, .slice A0_1 l0_1.length c0_1] 41 (0, 0)) (by (with_reducible repeat (first | refine blk_drewN ?_ _ | refine blk_drew ?_ | refine blk_alloc ?_ _)); exact BK800.out)) : gb800 ≠ gb811)); have n8_ := Aside0.mk ((by rw [hg]; exact Nat.ne_of_gt (blk_lt (g := gb800) (o := .cells #[.int .i64 a0_0, .slice A0_1 l0_1.length c0_1] 41 (0, 0)) (by (with_reducible repeat (first | refine blk_drewN ?_ _ | refine blk_drew ?_ | refine blk_alloc ?_ _)); exact BK800.out)) : gb811 ≠ gb800)); clear HO805; clear HO810; clear BK800; clear HB; have HO805 := n0_; have HO810 := n1_; have BK800 := n2_; have HB := n3_; have BK811 := n4_; have GW811 := n5_; have GE811 := n6_; have NB800_811 := n7_; have NB811_800 := n8_; clear n0_ n1_ n2_ n3_ n4_ n5_ n6_ n7_ n8_; clear hb hbox hg; have hnb22 := NB811_800.out; have hnc22 := NB800_811.out; have hcz23_0 : w21.cell? ⟨gb811, 0, none⟩ = some (.int .i64 0) := (blk_cell BK811.out 0).trans rfl; have hcz23_1 : w21.cell? ⟨gb811, 1, none⟩ = some (.slice none 0 0) := (blk_cell BK811.out 1).trans rfl; have hfz23_0 := blk_frozen BK811.out 0; have hfz23_1 := blk_frozen BK811.out 1; obtain ⟨Ao24, co24, eo24⟩ := Kd.S_slice HO810.out; subst eo24) | ((with_reducible refine gate_callee (f := 46) rfl ?_); refine goesL_ (some 18) rfl rfl Try.func46 (by kernel_rfl) rfl #[.agg #[.int .i64 t807, .slice Ao24 t808.length co24]] rfl (by (try simp only [List.map_toArray, List.map_cons, List.map_nil]); first | done | rfl | (simp only [List.length_drop, List.length_take]; rfl)) ?_; (with_reducible refine (impl_Even.calls k t807 _ _ t808 t812 _ ?side1 ?side2 A10.out).mono ?_); (case side1 => refine (Kd.S_reads' (e := 90) (base := w.heap.size) (ok := fun k_ => (True ∧ some k_ ≠ (.slice Ao17 t803.length co17 : Value).ownBlock)) (n := t808.length) (c := co24) ?_).2.2; exact (by (with_reducible repeat (first | apply Kd.S_alloc | apply Kd.S_drewN | apply Kd.S_drew)); exact (Kd.S_mono (Kd.S_far (p := ⟨gb811, 1, none⟩) (Kd.S_far (p := ⟨gb811, 0, none⟩) (Kd.S_types HO810.out BK811.out (by decide)) (fun _ hk => hk.2) (.int .i64 t807)) (fun _ hk => hk.2) (.slice Ao24 t808.length co24)) (fun _ h_ => h_.1)))); (case side2 => exact (Kd.S_reads' HO810.out).2.1); rintro e w25 ⟨rfl, hb⟩; refine ⟨_, rfl, ?_⟩; have n0_ := Aside0.mk (Kd.S_below (by (with_reducible repeat (first | apply Kd.S_alloc | apply Kd.S_drewN | apply Kd.S_drew)); exact (Kd.S_mono (Kd.S_far (p := ⟨gb811, 1, none⟩) (Kd.S_far (p := ⟨gb811, 0, none⟩) (Kd.S_types HO805.out BK811.out (by decide)) (fun _ hk => hk.2) (.int .i64 t807)) (fun _ hk => hk.2) (.slice Ao24 t808.length co24)) (fun _ h_ => h_.1))) hb); have n1_ := Aside0.mk (Kd.S_below (by (with_reducible repeat (first | apply Kd.S_alloc | apply Kd.S_drewN | apply Kd.S_drew)); exact (Kd.S_mono (Kd.S_far (p := ⟨gb811, 1, none⟩) (Kd.S_far (p := ⟨gb811, 0, none⟩) (Kd.S_types HO810.out BK811.out (by decide)) (fun _ hk => hk.2) (.int .i64 t807)) (fun _ hk => hk.2) (.slice Ao24 t808.length co24)) (fun _ h_ => h_.1))) hb); have n2_ := Aside0.mk (blk_below (g := gb800) (o := .cells #[.int .i64 a0_0, .slice A0_1 l0_1.length c0_1] 41 (0, 0)) (by (with_reducible repeat (first | refine blk_drewN ?_ _ | refine blk_drew ?_ | refine blk_alloc ?_ _)); refine blk_far ?_ NB800_811.out _; (with_reducible repeat (first | refine blk_drewN ?_ _ | refine blk_drew ?_ | refine blk_alloc ?_ _)); refine blk_far ?_ NB800_811.out _; (with_reducible repeat (first | refine blk_drewN ?_ _ | refine blk_drew ?_ | refine blk_alloc ?_ _)); exact BK800.out) hb); have n3_ := Aside0.mk (blk_below (g := gb811) (o := .cells #[.int .i64 t807, .slice Ao24 t808.length co24] 49 (0, 0)) (by (with_reducible repeat (first | refine blk_drewN ?_ _ | refine blk_drew ?_ | refine blk_alloc ?_ _)); refine blk_put (cs := #[.int .i64 t807, .slice none 0 0]) ?_ 1 _ rfl; (with_reducible repeat (first | refine blk_drewN ?_ _ | refine blk_drew ?_ | refine blk_alloc ?_ _)); refine blk_put (cs := #[.int .i64 0, .slice none 0 0]) ?_ 0 _ rfl; (with_reducible repeat (first | refine blk_drewN ?_ _ | refine blk_drew ?_ | refine blk_alloc ?_ _)); exact BK811.out) hb); have n4_ := Aside0.mk (below_step (by repeat (first | (with_reducible first | exact HB.out | apply below_alloc | apply pw_below_drewN | apply below_drew1 | refine below_set ?_ GE800.out | refine below_set ?_ GE811.out) | exact HB.out)) hb); clear HO805; clear HO810; clear BK800; clear BK811; clear HB; have HO805 := n0_; have HO810 := n1_; have BK800 := n2_; have BK811 := n3_; have HB := n4_; clear n0_ n1_ n2_ n3_ n4_; (try clear hb); (try clear hb2); (try clear hk); (try clear hi)))
      go_ret
      exact ⟨by first | rfl | (simp [errW_none, errW_some] <;> rfl) | (simp [*, errW_none, errW_some] <;> rfl), by repeat (first | (with_reducible first | exact HB.out | apply below_alloc | apply pw_below_drewN | apply below_drew1 | refine below_set ?_ GE800.out | refine below_set ?_ GE811.out) | exact HB.out)⟩
    · rw [if_neg c11] at H
      have c11b0 : (t812 != t806) = false := by simpa using c11
      (try (have c11b1 : decide (t812 = t806) = true := by simpa using c11))
      (try (have c11b2 : (t812 == t806) = true := by simpa using c11))
      clear c11
      replace H := Option.bind_eq_some_iff.mp H
      obtain ⟨⟨t813, t814⟩, A260, H⟩ := H
      replace H : ((laws_eqBook.f k t807 t808 t813 t814).bind fun t817 => (if t817 = true then (some true) else (some false))) = some r := H
      have A26 := Aside0.mk A260
      clear A260
      replace H := Option.bind_eq_some_iff.mp H
      obtain ⟨t817, A270, H⟩ := H
      replace H : (if t817 = true then (some true) else (some false)) = some r := H
      have A27 := Aside0.mk A270
      clear A270
      by_cases c28 : t817 = true
      · subst c28
        have H1 : (some true) = some r := by rw [if_pos rfl] at H; exact H
        clear H
        have H := H1
        clear H1
        obtain rfl := Option.some.inj H
        go_enter Try.func9, Try.ntmps9
        try go_wp2_with (first | ((with_reducible refine gate_dst (N := 1) rfl ?_); refine box_event ?hg (N := 1) ?hd (cs := #[.int .i64 a0_0, .slice A0_1 l0_1.length c0_1]) (t := 41) ?hr ?_; (case hd => rfl); (case hg => rfl); (case hr => first | (go_simp; done) | (go_simp; rfl)); intro gb800 hg w29 hbox hb; have n0_ := Aside0.mk (below_step (by repeat (first | (with_reducible first | exact HB.out | apply below_alloc | apply pw_below_drewN | apply below_drew1) | exact HB.out)) hb); have n1_ := Aside0.mk (hbox); have n2_ := Aside0.mk ((by rw [hg]; exact (below_size (by repeat (first | (with_reducible first | exact HB.out | apply below_alloc | apply pw_below_drewN | apply below_drew1) | exact HB.out))) : w.heap.size ≤ gb800)); have n3_ := Aside0.mk ((by rw [hg]; exact (below_size (by repeat (first | (with_reducible first | exact HB.out | apply below_alloc | apply pw_below_drewN | apply below_drew1) | exact HB.out))) : w.heap.size ≤ gb800)); clear HB; have HB := n0_; have BK800 := n1_; have GW800 := n2_; have GE800 := n3_; clear n0_ n1_ n2_ n3_; clear hb hbox hg; have hcz30_0 : w29.cell? ⟨gb800, 0, none⟩ = some (.int .i64 a0_0) := (blk_cell BK800.out 0).trans rfl; have hcz30_1 : w29.cell? ⟨gb800, 1, none⟩ = some (.slice A0_1 l0_1.length c0_1) := (blk_cell BK800.out 1).trans rfl; have hfz30_0 := blk_frozen BK800.out 0; have hfz30_1 := blk_frozen BK800.out 1) | ((with_reducible refine gate_callee (f := 23) rfl ?_); refine goesL_ (some 9) rfl rfl Try.func23 (by kernel_rfl) rfl #[.agg #[.int .i64 a0_0, .slice A0_1 l0_1.length c0_1], .int .i64 1048576] rfl (by (try simp only [List.map_toArray, List.map_cons, List.map_nil]); first | done | rfl | (simp only [List.length_drop, List.length_take]; rfl)) ?_; (with_reducible refine (laws_szBook.calls k a0_0 _ _ l0_1 1048576 t801 _ ?side1 ?side2 A2.out).mono ?_); (case side1 => repeat (first | exact (Kd.C_below HR0_1.out HB.out) | (with_reducible refine Kd.C_alloc ?_ _) | (with_reducible refine Kd.C_drewN ?_ _) | (with_reducible refine Kd.C_drew ?_))); (case side2 => exact HC0_1.out); rintro e w31 ⟨rfl, hb⟩; refine ⟨_, rfl, ?_⟩; have n0_ := Aside0.mk (blk_below (g := gb800) (o := .cells #[.int .i64 a0_0, .slice A0_1 l0_1.length c0_1] 41 (0, 0)) (by (with_reducible repeat (first | refine blk_drewN ?_ _ | refine blk_drew ?_ | refine blk_alloc ?_ _)); exact BK800.out) hb); have n1_ := Aside0.mk (below_step (by repeat (first | (with_reducible first | exact HB.out | apply below_alloc | apply pw_below_drewN | apply below_drew1 | refine below_set ?_ GE800.out) | exact HB.out)) hb); clear BK800; clear HB; have BK800 := n0_; have HB := n1_; clear n0_ n1_; (try clear hb); (try clear hb2); (try clear hk); (try clear hi); have hcz32_0 : w31.cell? ⟨gb800, 0, none⟩ = some (.int .i64 a0_0) := (blk_cell BK800.out 0).trans rfl; have hcz32_1 : w31.cell? ⟨gb800, 1, none⟩ = some (.slice A0_1 l0_1.length c0_1) := (blk_cell BK800.out 1).trans rfl; have hfz32_0 := blk_frozen BK800.out 0; have hfz32_1 := blk_frozen BK800.out 1) | ((with_reducible refine gate_callee (f := 26) rfl ?_); refine goesL_ (some 13) rfl rfl Try.func26 (by kernel_rfl) rfl #[.agg #[.int .i64 a0_0, .slice A0_1 l0_1.length c0_1]] rfl (by (try simp only [List.map_toArray, List.map_cons, List.map_nil]); first | done | rfl | (simp only [List.length_drop, List.length_take]; rfl)) ?_; (with_reducible refine (laws_toBook.calls k a0_0 _ _ l0_1 t802 t803 _ ?side1 ?side2 A7.out).mono ?_); (case side1 => repeat (first | exact (Kd.C_below HR0_1.out HB.out) | (with_reducible refine Kd.C_alloc ?_ _) | (with_reducible refine Kd.C_drewN ?_ _) | (with_reducible refine Kd.C_drew ?_))); (case side2 => exact HC0_1.out); rintro e w33 ⟨v804, rfl, ho0, hb⟩; refine ⟨_, rfl, ?_⟩; have n0_ := Aside0.mk (Kd.S_lower ho0 (below_size (by repeat (first | (with_reducible first | exact HB.out | apply below_alloc | apply pw_below_drewN | apply below_drew1 | refine below_set ?_ GE800.out) | exact HB.out)))); have n1_ := Aside0.mk (blk_below (g := gb800) (o := .cells #[.int .i64 a0_0, .slice A0_1 l0_1.length c0_1] 41 (0, 0)) (by (with_reducible repeat (first | refine blk_drewN ?_ _ | refine blk_drew ?_ | refine blk_alloc ?_ _)); exact BK800.out) hb); have n2_ := Aside0.mk (below_step (by repeat (first | (with_reducible first | exact HB.out | apply below_alloc | apply pw_below_drewN | apply below_drew1 | refine below_set ?_ GE800.out) | exact HB.out)) hb); clear BK800; clear HB; have HO805 := n0_; have BK800 := n1_; have HB := n2_; clear n0_ n1_ n2_; (try clear hb); (try clear hb2); (try clear hk); (try clear hi); (try clear ho0); obtain ⟨Ao34, co34, eo34⟩ := Kd.S_slice HO805.out; subst eo34) | ((with_reducible refine gate_callee (f := 45) rfl ?_); refine goesL_ (some 14) rfl rfl Try.func45 (by kernel_rfl) rfl #[.agg #[.int .i64 t802, .slice Ao34 t803.length co34]] rfl (by (try simp only [List.map_toArray, List.map_cons, List.map_nil]); first | done | rfl | (simp only [List.length_drop, List.length_take]; rfl)) ?_; (with_reducible refine (spec_Even.calls k t802 _ _ t803 t806 _ ?side1 ?side2 A8.out).mono ?_); (case side1 => repeat (first | exact (Kd.S_reads' HO805.out).2.2 | (with_reducible refine Kd.C_alloc ?_ _) | (with_reducible refine Kd.C_drewN ?_ _) | (with_reducible refine Kd.C_drew ?_))); (case side2 => exact (Kd.S_reads' HO805.out).2.1); rintro e w35 ⟨rfl, hb⟩; refine ⟨_, rfl, ?_⟩; have n0_ := Aside0.mk (Kd.S_below (by (with_reducible repeat (first | apply Kd.S_alloc | apply Kd.S_drewN | apply Kd.S_drew)); exact HO805.out) hb); have n1_ := Aside0.mk (blk_below (g := gb800) (o := .cells #[.int .i64 a0_0, .slice A0_1 l0_1.length c0_1] 41 (0, 0)) (by (with_reducible repeat (first | refine blk_drewN ?_ _ | refine blk_drew ?_ | refine blk_alloc ?_ _)); exact BK800.out) hb); have n2_ := Aside0.mk (below_step (by repeat (first | (with_reducible first | exact HB.out | apply below_alloc | apply pw_below_drewN | apply below_drew1 | refine below_set ?_ GE800.out) | exact HB.out)) hb); clear HO805; clear BK800; clear HB; have HO805 := n0_; have BK800 := n1_; have HB := n2_; clear n0_ n1_ n2_; (try clear hb); (try clear hb2); (try clear hk); (try clear hi); have hcz36_0 : w35.cell? ⟨gb800, 0, none⟩ = some (.int .i64 a0_0) := (blk_cell BK800.out 0).trans rfl; have hcz36_1 : w35.cell? ⟨gb800, 1, none⟩ = some (.slice A0_1 l0_1.length c0_1) := (blk_cell BK800.out 1).trans rfl; have hfz36_0 := blk_frozen BK800.out 0; have hfz36_1 := blk_frozen BK800.out 1) | ((with_reducible refine gate_callee (f := 26) rfl ?_); refine goesL_ (some 16) rfl rfl Try.func26 (by kernel_rfl) rfl #[.agg #[.int .i64 a0_0, .slice A0_1 l0_1.length c0_1]] rfl (by (try simp only [List.map_toArray, List.map_cons, List.map_nil]); first | done | rfl | (simp only [List.length_drop, List.length_take]; rfl)) ?_; (with_reducible refine (laws_toBook.calls k a0_0 _ _ l0_1 t807 t808 _ ?side1 ?side2 A9.out).mono ?_); (case side1 => repeat (first | exact (Kd.C_below HR0_1.out HB.out) | (with_reducible refine Kd.C_alloc ?_ _) | (with_reducible refine Kd.C_drewN ?_ _) | (with_reducible refine Kd.C_drew ?_))); (case side2 => exact HC0_1.out); rintro e w37 ⟨v809, rfl, ho0, hb⟩; refine ⟨_, rfl, ?_⟩; have n0_ := Aside0.mk (Kd.S_elder' (by (with_reducible repeat (first | apply Kd.S_alloc | apply Kd.S_drewN | apply Kd.S_drew)); exact HO805.out) (Kd.S_base ho0) hb); have n1_ := Aside0.mk (Kd.S_lower (Kd.S_new' ho0 (Kd.S_lt (by (with_reducible repeat (first | apply Kd.S_alloc | apply Kd.S_drewN | apply Kd.S_drew)); exact HO805.out))) (below_size (by repeat (first | (with_reducible first | exact HB.out | apply below_alloc | apply pw_below_drewN | apply below_drew1 | refine below_set ?_ GE800.out) | exact HB.out)))); have n2_ := Aside0.mk (blk_below (g := gb800) (o := .cells #[.int .i64 a0_0, .slice A0_1 l0_1.length c0_1] 41 (0, 0)) (by (with_reducible repeat (first | refine blk_drewN ?_ _ | refine blk_drew ?_ | refine blk_alloc ?_ _)); exact BK800.out) hb); have n3_ := Aside0.mk (below_step (by repeat (first | (with_reducible first | exact HB.out | apply below_alloc | apply pw_below_drewN | apply below_drew1 | refine below_set ?_ GE800.out) | exact HB.out)) hb); clear HO805; clear BK800; clear HB; have HO805 := n0_; have HO810 := n1_; have BK800 := n2_; have HB := n3_; clear n0_ n1_ n2_ n3_; (try clear hb); (try clear hb2); (try clear hk); (try clear hi); (try clear ho0)) | ((with_reducible refine gate_dst (N := 5) rfl ?_); refine box_event ?hg (N := 5) ?hd (cs := #[.int .i64 0, .slice none 0 0]) (t := 49) ?hr ?_; (case hd => rfl); (case hg => rfl); (case hr => first | (go_simp; done) | (go_simp; rfl)); intro gb811 hg w38 hbox hb; have n0_ := Aside0.mk (Kd.S_below (by (with_reducible repeat (first | apply Kd.S_alloc | apply Kd.S_drewN | apply Kd.S_drew)); exact HO805.out) hb); have n1_ := Aside0.mk (Kd.S_below (by (with_reducible repeat (first | apply Kd.S_alloc | apply Kd.S_drewN | apply Kd.S_drew)); exact HO810.out) hb); have n2_ := Aside0.mk (blk_below (g := gb800) (o := .cells #[.int .i64 a0_0, .slice A0_1 l0_1.length c0_1] 41 (0, 0)) (by (with_reducible repeat (first | refine blk_drewN ?_ _ | refine blk_drew ?_ | refine blk_alloc ?_ _)); exact BK800.out) hb); have n3_ := Aside0.mk (below_step (by repeat (first | (with_reducible first | exact HB.out | apply below_alloc | apply pw_below_drewN | apply below_drew1 | refine below_set ?_ GE800.out) | exact HB.out)) hb); have n4_ := Aside0.mk (hbox); have n5_ := Aside0.mk ((by rw [hg]; exact (below_size (by repeat (first | (with_reducible first | exact HB.out | apply below_alloc | apply pw_below_drewN | apply below_drew1 | refine below_set ?_ GE800.out) | exact HB.out))) : w.heap.size ≤ gb811)); have n6_ := Aside0.mk ((by rw [hg]; exact (below_size (by repeat (first | (with_reducible first | exact HB.out | apply below_alloc | apply pw_below_drewN | apply below_drew1 | refine below_set ?_ GE800.out) | exact HB.out))) : w.heap.size ≤ gb811)); have n7_ := Aside0.mk ((by rw [hg]; exact Nat.ne_of_lt (blk_lt (g := gb800) (o := .cells #[.int .i64 a0_0, .slice A0_1 l0_1.length c0_1] 41 (0, 0)) (by (with_reducible repeat (first | refine blk_drewN ?_ _ | refine blk_drew ?_ | refine blk_alloc ?_ _)); exact BK800.out)) : gb800 ≠ gb811)); have n8_ := Aside0.mk ((by rw [hg]; exact Nat.ne_of_gt (blk_lt (g := gb800) (o := .cells #[.int .i64 a0_0, .slice A0_1 l0_1.length c0_1] 41 (0, 0)) (by (with_reducible repeat (first | refine blk_drewN ?_ _ | refine blk_drew ?_ | refine blk_alloc ?_ _)); exact BK800.out)) : gb811 ≠ gb800)); clear HO805; clear HO810; clear BK800; clear HB; have HO805 := n0_; have HO810 := n1_; have BK800 := n2_; have HB := n3_; have BK811 := n4_; have GW811 := n5_; have GE811 := n6_; have NB800_811 := n7_; have NB811_800 := n8_; clear n0_ n1_ n2_ n3_ n4_ n5_ n6_ n7_ n8_; clear hb hbox hg; have hnb39 := NB811_800.out; have hnc39 := NB800_811.out; have hcz40_0 : w38.cell? ⟨gb811, 0, none⟩ = some (.int .i64 0) := (blk_cell BK811.out 0).trans rfl; have hcz40_1 : w38.cell? ⟨gb811, 1, none⟩ = some (.slice none 0 0) := (blk_cell BK811.out 1).trans rfl; have hfz40_0 := blk_frozen BK811.out 0; have hfz40_1 := blk_frozen BK811.out 1; obtain ⟨Ao41, co41, eo41⟩ := Kd.S_slice HO810.out; subst eo41) | ((with_reducible refine gate_callee (f := 46) rfl ?_); refine goesL_ (some 18) rfl rfl Try.func46 (by kernel_rfl) rfl #[.agg #[.int .i64 t807, .slice Ao41 t808.length co41]] rfl (by (try simp only [List.map_toArray, List.map_cons, List.map_nil]); first | done | rfl | (simp only [List.length_drop, List.length_take]; rfl)) ?_; (with_reducible refine (impl_Even.calls k t807 _ _ t808 t812 _ ?side1 ?side2 A10.out).mono ?_); (case side1 => refine (Kd.S_reads' (e := 90) (base := w.heap.size) (ok := fun k_ => (True ∧ some k_ ≠ (.slice Ao34 t803.length co34 : Value).ownBlock)) (n := t808.length) (c := co41) ?_).2.2; exact (by (with_reducible repeat (first | apply Kd.S_alloc | apply Kd.S_drewN | apply Kd.S_drew)); exact (Kd.S_mono (Kd.S_far (p := ⟨gb811, 1, none⟩) (Kd.S_far (p := ⟨gb811, 0, none⟩) (Kd.S_types HO810.out BK811.out (by decide)) (fun _ hk => hk.2) (.int .i64 t807)) (fun _ hk => hk.2) (.slice Ao41 t808.length co41)) (fun _ h_ => h_.1)))); (case side2 => exact (Kd.S_reads' HO810.out).2.1); rintro e w42 ⟨rfl, hb⟩; refine ⟨_, rfl, ?_⟩; have n0_ := Aside0.mk (Kd.S_below (by (with_reducible repeat (first | apply Kd.S_alloc | apply Kd.S_drewN | apply Kd.S_drew)); exact (Kd.S_mono (Kd.S_far (p := ⟨gb811, 1, none⟩) (Kd.S_far (p := ⟨gb811, 0, none⟩) (Kd.S_types HO805.out BK811.out (by decide)) (fun _ hk => hk.2) (.int .i64 t807)) (fun _ hk => hk.2) (.slice Ao41 t808.length co41)) (fun _ h_ => h_.1))) hb); have n1_ := Aside0.mk (Kd.S_below (by (with_reducible repeat (first | apply Kd.S_alloc | apply Kd.S_drewN | apply Kd.S_drew)); exact (Kd.S_mono (Kd.S_far (p := ⟨gb811, 1, none⟩) (Kd.S_far (p := ⟨gb811, 0, none⟩) (Kd.S_types HO810.out BK811.out (by decide)) (fun _ hk => hk.2) (.int .i64 t807)) (fun _ hk => hk.2) (.slice Ao41 t808.length co41)) (fun _ h_ => h_.1))) hb); have n2_ := Aside0.mk (blk_below (g := gb800) (o := .cells #[.int .i64 a0_0, .slice A0_1 l0_1.length c0_1] 41 (0, 0)) (by (with_reducible repeat (first | refine blk_drewN ?_ _ | refine blk_drew ?_ | refine blk_alloc ?_ _)); refine blk_far ?_ NB800_811.out _; (with_reducible repeat (first | refine blk_drewN ?_ _ | refine blk_drew ?_ | refine blk_alloc ?_ _)); refine blk_far ?_ NB800_811.out _; (with_reducible repeat (first | refine blk_drewN ?_ _ | refine blk_drew ?_ | refine blk_alloc ?_ _)); exact BK800.out) hb); have n3_ := Aside0.mk (blk_below (g := gb811) (o := .cells #[.int .i64 t807, .slice Ao41 t808.length co41] 49 (0, 0)) (by (with_reducible repeat (first | refine blk_drewN ?_ _ | refine blk_drew ?_ | refine blk_alloc ?_ _)); refine blk_put (cs := #[.int .i64 t807, .slice none 0 0]) ?_ 1 _ rfl; (with_reducible repeat (first | refine blk_drewN ?_ _ | refine blk_drew ?_ | refine blk_alloc ?_ _)); refine blk_put (cs := #[.int .i64 0, .slice none 0 0]) ?_ 0 _ rfl; (with_reducible repeat (first | refine blk_drewN ?_ _ | refine blk_drew ?_ | refine blk_alloc ?_ _)); exact BK811.out) hb); have n4_ := Aside0.mk (below_step (by repeat (first | (with_reducible first | exact HB.out | apply below_alloc | apply pw_below_drewN | apply below_drew1 | refine below_set ?_ GE800.out | refine below_set ?_ GE811.out) | exact HB.out)) hb); clear HO805; clear HO810; clear BK800; clear BK811; clear HB; have HO805 := n0_; have HO810 := n1_; have BK800 := n2_; have BK811 := n3_; have HB := n4_; clear n0_ n1_ n2_ n3_ n4_; (try clear hb); (try clear hb2); (try clear hk); (try clear hi)))
        have n0_ := Aside0.mk (Kd.S_drew HO805.out)
        have n1_ := Aside0.mk (Kd.S_drew HO810.out)
        have n2_ := Aside0.mk (blk_drew BK800.out)
        have n3_ := Aside0.mk (blk_drew BK811.out)
        have n4_ := Aside0.mk (below_drew1 HB.out)
        clear HO805
        clear HO810
        clear BK800
        clear BK811
        clear HB
        have HO805 := n0_
        have HO810 := n1_
        have BK800 := n2_
        have BK811 := n3_
        have HB := n4_
        clear n0_ n1_ n2_ n3_ n4_
        refine start_ (n := 5) (S := fun w' => w'.cell? ⟨gb811, 0, none⟩ = some (.int .i64 t807) ∧ w'.cell? ⟨gb811, 1, none⟩ = some (.slice Ao41 t808.length co41) ∧ w'.cell? ⟨gb800, 0, none⟩ = some (.int .i64 a0_0) ∧ w'.cell? ⟨gb800, 1, none⟩ = some (.slice A0_1 l0_1.length c0_1)) (ds := []) #[false, false, false, false, false] (by kernel_rfl) rfl rfl ⟨(blk_cell BK811.out 0).trans rfl, (blk_cell BK811.out 1).trans rfl, (blk_cell BK800.out 0).trans rfl, (blk_cell BK800.out 1).trans rfl⟩ (fun hHeld => ?_)
        generalize w42.drew = w43 at HO805 HO810 BK800 BK811 HB hHeld ⊢
        refine take_ (i := 0) (N := some 22) (v := ?_) (a' := ?_) #[true, false, false, false, false] rfl rfl (by kernel_rfl) (fun _ _ _ h => h) (Or.inl ⟨by rfl, ?_⟩) hHeld ?_ ?_
        rotate_left
        · rintro w' ⟨s0, s1, s2, s3⟩
          go_simp
          with_reducible rfl
        rotate_left
        · simp only [Act.put, List.setIfInBounds_toArray, List.set_cons_zero, List.set_cons_succ, i64_w, i32_w]
          rfl
        refine take_ (i := 1) (N := some 23) (v := ?_) (a' := ?_) #[true, true, false, false, false] rfl rfl (by kernel_rfl) (fun _ _ _ h => h) (Or.inl ⟨by rfl, ?_⟩) hHeld ?_ ?_
        rotate_left
        · rintro w' ⟨s0, s1, s2, s3⟩
          go_simp
          with_reducible rfl
        rotate_left
        · simp only [Act.put, List.setIfInBounds_toArray, List.set_cons_zero, List.set_cons_succ, i64_w, i32_w]
          rfl
        refine one_ (i := 2) (N := some 24) #[true, true, true, false, false] rfl rfl (by kernel_rfl) (by decide) (fun K hK => ?_)
        refine goes_ Try.func26 (by kernel_rfl) rfl #[.agg #[.int .i64 a0_0, .slice A0_1 l0_1.length c0_1]] (by rfl) rfl rfl (by (try simp only [List.map_toArray, List.map_cons, List.map_nil]); first | done | rfl | (simp only [List.length_drop, List.length_take]; rfl)) ?_
        with_reducible refine (laws_toBook.calls k a0_0 _ _ l0_1 t813 t814 _ ?side1 ?side2 A26.out).mono ?_
        (case side1 => repeat (first | exact (Kd.C_below HR0_1.out HB.out) | (with_reducible refine Kd.C_alloc ?_ _) | (with_reducible refine Kd.C_drewN ?_ _) | (with_reducible refine Kd.C_drew ?_)))
        (case side2 => exact HC0_1.out)
        rintro e w44 ⟨v815, rfl, ho0, hb⟩
        refine ⟨_, rfl, ?_⟩
        have n0_ := Aside0.mk (Kd.S_elder' (by (with_reducible repeat (first | apply Kd.S_alloc | apply Kd.S_drewN | apply Kd.S_drew)); exact HO805.out) (Kd.S_base ho0) hb)
        have n1_ := Aside0.mk (Kd.S_elder' (by (with_reducible repeat (first | apply Kd.S_alloc | apply Kd.S_drewN | apply Kd.S_drew)); exact HO810.out) (Kd.S_base ho0) hb)
        have n2_ := Aside0.mk (Kd.S_lower (Kd.S_new' (Kd.S_new' ho0 (Kd.S_lt (by (with_reducible repeat (first | apply Kd.S_alloc | apply Kd.S_drewN | apply Kd.S_drew)); exact HO805.out))) (Kd.S_lt (by (with_reducible repeat (first | apply Kd.S_alloc | apply Kd.S_drewN | apply Kd.S_drew)); exact HO810.out))) (below_size (by repeat (first | (with_reducible first | exact HB.out | apply below_alloc | apply pw_below_drewN | apply below_drew1 | refine below_set ?_ GE800.out | refine below_set ?_ GE811.out) | exact HB.out))))
        have n3_ := Aside0.mk (blk_below (g := gb800) (o := .cells #[.int .i64 a0_0, .slice A0_1 l0_1.length c0_1] 41 (0, 0)) (by (with_reducible repeat (first | refine blk_drewN ?_ _ | refine blk_drew ?_ | refine blk_alloc ?_ _)); exact BK800.out) hb)
        have n4_ := Aside0.mk (blk_below (g := gb811) (o := .cells #[.int .i64 t807, .slice Ao41 t808.length co41] 49 (0, 0)) (by (with_reducible repeat (first | refine blk_drewN ?_ _ | refine blk_drew ?_ | refine blk_alloc ?_ _)); exact BK811.out) hb)
        have n5_ := Aside0.mk (below_step (by repeat (first | (with_reducible first | exact HB.out | apply below_alloc | apply pw_below_drewN | apply below_drew1 | refine below_set ?_ GE800.out | refine below_set ?_ GE811.out) | exact HB.out)) hb)
        clear HO805
        clear HO810
        clear BK800
        clear BK811
        clear HB
        have HO805 := n0_
        have HO810 := n1_
        have HO816 := n2_
        have BK800 := n3_
        have BK811 := n4_
        have HB := n5_
        clear n0_ n1_ n2_ n3_ n4_ n5_
        (try clear hb)
        (try clear hb2)
        (try clear hk)
        (try clear hi)
        (try clear ho0)
        obtain ⟨Ao45, co45, eo45⟩ := Kd.S_slice HO816.out
        (first | subst eo45 | (injection eo45 with f1_ f2_ f3_; have f4_ := f1_.symm; have f5_ := f3_.symm; clear f1_ f2_ f3_; subst f4_; subst f5_))
        refine hK.out _ _ ⟨(blk_cell BK811.out 0).trans rfl, (blk_cell BK811.out 1).trans rfl, (blk_cell BK800.out 0).trans rfl, (blk_cell BK800.out 1).trans rfl⟩ (fun hHeld => ?_)
        clear hK K
        refine norm_ (a' := ?_) ?_ ?_
        rotate_left
        · show Act.put _ (some 24) _ = _
          simp only [Act.put, List.setIfInBounds_toArray, List.set_cons_zero, List.set_cons_succ, i64_w, i32_w]
          rfl
        refine one_ (i := 3) (N := some 25) #[true, true, true, true, false] rfl rfl (by kernel_rfl) (by decide) (fun K hK => ?_)
        refine goes_ Try.func29 (by kernel_rfl) rfl #[.agg #[.int .i64 t807, .slice Ao41 t808.length co41], .agg #[.int .i64 t813, .slice Ao45 t814.length co45]] (by rfl) rfl rfl (by (try simp only [List.map_toArray, List.map_cons, List.map_nil]); first | done | rfl | (simp only [List.length_drop, List.length_take]; rfl)) ?_
        with_reducible refine (laws_eqBook.calls k t807 _ _ t808 t813 _ _ t814 true _ ?side1 ?side2 ?side3 ?side4 A27.out).mono ?_
        (case side1 => repeat (first | exact (Kd.S_reads' HO810.out).2.2 | (with_reducible refine Kd.C_alloc ?_ _) | (with_reducible refine Kd.C_drewN ?_ _) | (with_reducible refine Kd.C_drew ?_)))
        (case side2 => exact (Kd.S_reads' HO810.out).2.1)
        (case side3 => repeat (first | exact (Kd.S_reads' HO816.out).2.2 | (with_reducible refine Kd.C_alloc ?_ _) | (with_reducible refine Kd.C_drewN ?_ _) | (with_reducible refine Kd.C_drew ?_)))
        (case side4 => exact (Kd.S_reads' HO816.out).2.1)
        rintro e w46 ⟨rfl, hb⟩
        refine ⟨_, rfl, ?_⟩
        have n0_ := Aside0.mk (Kd.S_below (by (with_reducible repeat (first | apply Kd.S_alloc | apply Kd.S_drewN | apply Kd.S_drew)); exact HO805.out) hb)
        have n1_ := Aside0.mk (Kd.S_below (by (with_reducible repeat (first | apply Kd.S_alloc | apply Kd.S_drewN | apply Kd.S_drew)); exact HO810.out) hb)
        have n2_ := Aside0.mk (Kd.S_below (by (with_reducible repeat (first | apply Kd.S_alloc | apply Kd.S_drewN | apply Kd.S_drew)); exact HO816.out) hb)
        have n3_ := Aside0.mk (blk_below (g := gb800) (o := .cells #[.int .i64 a0_0, .slice A0_1 l0_1.length c0_1] 41 (0, 0)) (by (with_reducible repeat (first | refine blk_drewN ?_ _ | refine blk_drew ?_ | refine blk_alloc ?_ _)); exact BK800.out) hb)
        have n4_ := Aside0.mk (blk_below (g := gb811) (o := .cells #[.int .i64 t807, .slice Ao41 t808.length co41] 49 (0, 0)) (by (with_reducible repeat (first | refine blk_drewN ?_ _ | refine blk_drew ?_ | refine blk_alloc ?_ _)); exact BK811.out) hb)
        have n5_ := Aside0.mk (below_step (by repeat (first | (with_reducible first | exact HB.out | apply below_alloc | apply pw_below_drewN | apply below_drew1 | refine below_set ?_ GE800.out | refine below_set ?_ GE811.out) | exact HB.out)) hb)
        clear HO805
        clear HO810
        clear HO816
        clear BK800
        clear BK811
        clear HB
        have HO805 := n0_
        have HO810 := n1_
        have HO816 := n2_
        have BK800 := n3_
        have BK811 := n4_
        have HB := n5_
        clear n0_ n1_ n2_ n3_ n4_ n5_
        (try clear hb)
        (try clear hb2)
        (try clear hk)
        (try clear hi)
        refine hK.out _ _ ⟨(blk_cell BK811.out 0).trans rfl, (blk_cell BK811.out 1).trans rfl, (blk_cell BK800.out 0).trans rfl, (blk_cell BK800.out 1).trans rfl⟩ (fun hHeld => ?_)
        clear hK K
        refine norm_ (a' := ?_) ?_ ?_
        rotate_left
        · show Act.put _ (some 25) _ = _
          simp only [Act.put, List.setIfInBounds_toArray, List.set_cons_zero, List.set_cons_succ, i64_w, i32_w]
          rfl
        refine pure_ (i := 4) (N := some 26) (v := ?_) (a' := ?_) #[true, true, true, true, true] rfl rfl (by kernel_rfl) (fun _ _ _ h => h) (Or.inl ⟨by rfl, ?_⟩) ?_ ?_
        rotate_left
        · intro w'
          go_simp
          with_reducible rfl
        rotate_left
        · simp only [Act.put, List.setIfInBounds_toArray, List.set_cons_zero, List.set_cons_succ, i64_w, i32_w]
          rfl
        refine done_ (by kernel_rfl) ?_
        try go_wp2
        go_ret
        exact ⟨by first | rfl | (simp [errW_none, errW_some] <;> rfl) | (simp [*, errW_none, errW_some] <;> rfl), by repeat (first | (with_reducible first | exact HB.out | apply below_alloc | apply pw_below_drewN | apply below_drew1 | refine below_set ?_ GE800.out | refine below_set ?_ GE811.out) | exact HB.out)⟩
      · replace c28 := Bool.eq_false_iff.mpr c28
        subst c28
        have H1 : (some false) = some r := by rw [if_neg (show ¬ (false = true) by decide)] at H; exact H
        clear H
        have H := H1
        clear H1
        obtain rfl := Option.some.inj H
        go_enter Try.func9, Try.ntmps9
        try go_wp2_with (first | ((with_reducible refine gate_dst (N := 1) rfl ?_); refine box_event ?hg (N := 1) ?hd (cs := #[.int .i64 a0_0, .slice A0_1 l0_1.length c0_1]) (t := 41) ?hr ?_; (case hd => rfl); (case hg => rfl); (case hr => first | (go_simp; done) | (go_simp; rfl)); intro gb800 hg w47 hbox hb; have n0_ := Aside0.mk (below_step (by repeat (first | (with_reducible first | exact HB.out | apply below_alloc | apply pw_below_drewN | apply below_drew1) | exact HB.out)) hb); have n1_ := Aside0.mk (hbox); have n2_ := Aside0.mk ((by rw [hg]; exact (below_size (by repeat (first | (with_reducible first | exact HB.out | apply below_alloc | apply pw_below_drewN | apply below_drew1) | exact HB.out))) : w.heap.size ≤ gb800)); have n3_ := Aside0.mk ((by rw [hg]; exact (below_size (by repeat (first | (with_reducible first | exact HB.out | apply below_alloc | apply pw_below_drewN | apply below_drew1) | exact HB.out))) : w.heap.size ≤ gb800)); clear HB; have HB := n0_; have BK800 := n1_; have GW800 := n2_; have GE800 := n3_; clear n0_ n1_ n2_ n3_; clear hb hbox hg; have hcz48_0 : w47.cell? ⟨gb800, 0, none⟩ = some (.int .i64 a0_0) := (blk_cell BK800.out 0).trans rfl; have hcz48_1 : w47.cell? ⟨gb800, 1, none⟩ = some (.slice A0_1 l0_1.length c0_1) := (blk_cell BK800.out 1).trans rfl; have hfz48_0 := blk_frozen BK800.out 0; have hfz48_1 := blk_frozen BK800.out 1) | ((with_reducible refine gate_callee (f := 23) rfl ?_); refine goesL_ (some 9) rfl rfl Try.func23 (by kernel_rfl) rfl #[.agg #[.int .i64 a0_0, .slice A0_1 l0_1.length c0_1], .int .i64 1048576] rfl (by (try simp only [List.map_toArray, List.map_cons, List.map_nil]); first | done | rfl | (simp only [List.length_drop, List.length_take]; rfl)) ?_; (with_reducible refine (laws_szBook.calls k a0_0 _ _ l0_1 1048576 t801 _ ?side1 ?side2 A2.out).mono ?_); (case side1 => repeat (first | exact (Kd.C_below HR0_1.out HB.out) | (with_reducible refine Kd.C_alloc ?_ _) | (with_reducible refine Kd.C_drewN ?_ _) | (with_reducible refine Kd.C_drew ?_))); (case side2 => exact HC0_1.out); rintro e w49 ⟨rfl, hb⟩; refine ⟨_, rfl, ?_⟩; have n0_ := Aside0.mk (blk_below (g := gb800) (o := .cells #[.int .i64 a0_0, .slice A0_1 l0_1.length c0_1] 41 (0, 0)) (by (with_reducible repeat (first | refine blk_drewN ?_ _ | refine blk_drew ?_ | refine blk_alloc ?_ _)); exact BK800.out) hb); have n1_ := Aside0.mk (below_step (by repeat (first | (with_reducible first | exact HB.out | apply below_alloc | apply pw_below_drewN | apply below_drew1 | refine below_set ?_ GE800.out) | exact HB.out)) hb); clear BK800; clear HB; have BK800 := n0_; have HB := n1_; clear n0_ n1_; (try clear hb); (try clear hb2); (try clear hk); (try clear hi); have hcz50_0 : w49.cell? ⟨gb800, 0, none⟩ = some (.int .i64 a0_0) := (blk_cell BK800.out 0).trans rfl; have hcz50_1 : w49.cell? ⟨gb800, 1, none⟩ = some (.slice A0_1 l0_1.length c0_1) := (blk_cell BK800.out 1).trans rfl; have hfz50_0 := blk_frozen BK800.out 0; have hfz50_1 := blk_frozen BK800.out 1) | ((with_reducible refine gate_callee (f := 26) rfl ?_); refine goesL_ (some 13) rfl rfl Try.func26 (by kernel_rfl) rfl #[.agg #[.int .i64 a0_0, .slice A0_1 l0_1.length c0_1]] rfl (by (try simp only [List.map_toArray, List.map_cons, List.map_nil]); first | done | rfl | (simp only [List.length_drop, List.length_take]; rfl)) ?_; (with_reducible refine (laws_toBook.calls k a0_0 _ _ l0_1 t802 t803 _ ?side1 ?side2 A7.out).mono ?_); (case side1 => repeat (first | exact (Kd.C_below HR0_1.out HB.out) | (with_reducible refine Kd.C_alloc ?_ _) | (with_reducible refine Kd.C_drewN ?_ _) | (with_reducible refine Kd.C_drew ?_))); (case side2 => exact HC0_1.out); rintro e w51 ⟨v804, rfl, ho0, hb⟩; refine ⟨_, rfl, ?_⟩; have n0_ := Aside0.mk (Kd.S_lower ho0 (below_size (by repeat (first | (with_reducible first | exact HB.out | apply below_alloc | apply pw_below_drewN | apply below_drew1 | refine below_set ?_ GE800.out) | exact HB.out)))); have n1_ := Aside0.mk (blk_below (g := gb800) (o := .cells #[.int .i64 a0_0, .slice A0_1 l0_1.length c0_1] 41 (0, 0)) (by (with_reducible repeat (first | refine blk_drewN ?_ _ | refine blk_drew ?_ | refine blk_alloc ?_ _)); exact BK800.out) hb); have n2_ := Aside0.mk (below_step (by repeat (first | (with_reducible first | exact HB.out | apply below_alloc | apply pw_below_drewN | apply below_drew1 | refine below_set ?_ GE800.out) | exact HB.out)) hb); clear BK800; clear HB; have HO805 := n0_; have BK800 := n1_; have HB := n2_; clear n0_ n1_ n2_; (try clear hb); (try clear hb2); (try clear hk); (try clear hi); (try clear ho0); obtain ⟨Ao52, co52, eo52⟩ := Kd.S_slice HO805.out; subst eo52) | ((with_reducible refine gate_callee (f := 45) rfl ?_); refine goesL_ (some 14) rfl rfl Try.func45 (by kernel_rfl) rfl #[.agg #[.int .i64 t802, .slice Ao52 t803.length co52]] rfl (by (try simp only [List.map_toArray, List.map_cons, List.map_nil]); first | done | rfl | (simp only [List.length_drop, List.length_take]; rfl)) ?_; (with_reducible refine (spec_Even.calls k t802 _ _ t803 t806 _ ?side1 ?side2 A8.out).mono ?_); (case side1 => repeat (first | exact (Kd.S_reads' HO805.out).2.2 | (with_reducible refine Kd.C_alloc ?_ _) | (with_reducible refine Kd.C_drewN ?_ _) | (with_reducible refine Kd.C_drew ?_))); (case side2 => exact (Kd.S_reads' HO805.out).2.1); rintro e w53 ⟨rfl, hb⟩; refine ⟨_, rfl, ?_⟩; have n0_ := Aside0.mk (Kd.S_below (by (with_reducible repeat (first | apply Kd.S_alloc | apply Kd.S_drewN | apply Kd.S_drew)); exact HO805.out) hb); have n1_ := Aside0.mk (blk_below (g := gb800) (o := .cells #[.int .i64 a0_0, .slice A0_1 l0_1.length c0_1] 41 (0, 0)) (by (with_reducible repeat (first | refine blk_drewN ?_ _ | refine blk_drew ?_ | refine blk_alloc ?_ _)); exact BK800.out) hb); have n2_ := Aside0.mk (below_step (by repeat (first | (with_reducible first | exact HB.out | apply below_alloc | apply pw_below_drewN | apply below_drew1 | refine below_set ?_ GE800.out) | exact HB.out)) hb); clear HO805; clear BK800; clear HB; have HO805 := n0_; have BK800 := n1_; have HB := n2_; clear n0_ n1_ n2_; (try clear hb); (try clear hb2); (try clear hk); (try clear hi); have hcz54_0 : w53.cell? ⟨gb800, 0, none⟩ = some (.int .i64 a0_0) := (blk_cell BK800.out 0).trans rfl; have hcz54_1 : w53.cell? ⟨gb800, 1, none⟩ = some (.slice A0_1 l0_1.length c0_1) := (blk_cell BK800.out 1).trans rfl; have hfz54_0 := blk_frozen BK800.out 0; have hfz54_1 := blk_frozen BK800.out 1) | ((with_reducible refine gate_callee (f := 26) rfl ?_); refine goesL_ (some 16) rfl rfl Try.func26 (by kernel_rfl) rfl #[.agg #[.int .i64 a0_0, .slice A0_1 l0_1.length c0_1]] rfl (by (try simp only [List.map_toArray, List.map_cons, List.map_nil]); first | done | rfl | (simp only [List.length_drop, List.length_take]; rfl)) ?_; (with_reducible refine (laws_toBook.calls k a0_0 _ _ l0_1 t807 t808 _ ?side1 ?side2 A9.out).mono ?_); (case side1 => repeat (first | exact (Kd.C_below HR0_1.out HB.out) | (with_reducible refine Kd.C_alloc ?_ _) | (with_reducible refine Kd.C_drewN ?_ _) | (with_reducible refine Kd.C_drew ?_))); (case side2 => exact HC0_1.out); rintro e w55 ⟨v809, rfl, ho0, hb⟩; refine ⟨_, rfl, ?_⟩; have n0_ := Aside0.mk (Kd.S_elder' (by (with_reducible repeat (first | apply Kd.S_alloc | apply Kd.S_drewN | apply Kd.S_drew)); exact HO805.out) (Kd.S_base ho0) hb); have n1_ := Aside0.mk (Kd.S_lower (Kd.S_new' ho0 (Kd.S_lt (by (with_reducible repeat (first | apply Kd.S_alloc | apply Kd.S_drewN | apply Kd.S_drew)); exact HO805.out))) (below_size (by repeat (first | (with_reducible first | exact HB.out | apply below_alloc | apply pw_below_drewN | apply below_drew1 | refine below_set ?_ GE800.out) | exact HB.out)))); have n2_ := Aside0.mk (blk_below (g := gb800) (o := .cells #[.int .i64 a0_0, .slice A0_1 l0_1.length c0_1] 41 (0, 0)) (by (with_reducible repeat (first | refine blk_drewN ?_ _ | refine blk_drew ?_ | refine blk_alloc ?_ _)); exact BK800.out) hb); have n3_ := Aside0.mk (below_step (by repeat (first | (with_reducible first | exact HB.out | apply below_alloc | apply pw_below_drewN | apply below_drew1 | refine below_set ?_ GE800.out) | exact HB.out)) hb); clear HO805; clear BK800; clear HB; have HO805 := n0_; have HO810 := n1_; have BK800 := n2_; have HB := n3_; clear n0_ n1_ n2_ n3_; (try clear hb); (try clear hb2); (try clear hk); (try clear hi); (try clear ho0)) | ((with_reducible refine gate_dst (N := 5) rfl ?_); refine box_event ?hg (N := 5) ?hd (cs := #[.int .i64 0, .slice none 0 0]) (t := 49) ?hr ?_; (case hd => rfl); (case hg => rfl); (case hr => first | (go_simp; done) | (go_simp; rfl)); intro gb811 hg w56 hbox hb; have n0_ := Aside0.mk (Kd.S_below (by (with_reducible repeat (first | apply Kd.S_alloc | apply Kd.S_drewN | apply Kd.S_drew)); exact HO805.out) hb); have n1_ := Aside0.mk (Kd.S_below (by (with_reducible repeat (first | apply Kd.S_alloc | apply Kd.S_drewN | apply Kd.S_drew)); exact HO810.out) hb); have n2_ := Aside0.mk (blk_below (g := gb800) (o := .cells #[.int .i64 a0_0, .slice A0_1 l0_1.length c0_1] 41 (0, 0)) (by (with_reducible repeat (first | refine blk_drewN ?_ _ | refine blk_drew ?_ | refine blk_alloc ?_ _)); exact BK800.out) hb); have n3_ := Aside0.mk (below_step (by repeat (first | (with_reducible first | exact HB.out | apply below_alloc | apply pw_below_drewN | apply below_drew1 | refine below_set ?_ GE800.out) | exact HB.out)) hb); have n4_ := Aside0.mk (hbox); have n5_ := Aside0.mk ((by rw [hg]; exact (below_size (by repeat (first | (with_reducible first | exact HB.out | apply below_alloc | apply pw_below_drewN | apply below_drew1 | refine below_set ?_ GE800.out) | exact HB.out))) : w.heap.size ≤ gb811)); have n6_ := Aside0.mk ((by rw [hg]; exact (below_size (by repeat (first | (with_reducible first | exact HB.out | apply below_alloc | apply pw_below_drewN | apply below_drew1 | refine below_set ?_ GE800.out) | exact HB.out))) : w.heap.size ≤ gb811)); have n7_ := Aside0.mk ((by rw [hg]; exact Nat.ne_of_lt (blk_lt (g := gb800) (o := .cells #[.int .i64 a0_0, .slice A0_1 l0_1.length c0_1] 41 (0, 0)) (by (with_reducible repeat (first | refine blk_drewN ?_ _ | refine blk_drew ?_ | refine blk_alloc ?_ _)); exact BK800.out)) : gb800 ≠ gb811)); have n8_ := Aside0.mk ((by rw [hg]; exact Nat.ne_of_gt (blk_lt (g := gb800) (o := .cells #[.int .i64 a0_0, .slice A0_1 l0_1.length c0_1] 41 (0, 0)) (by (with_reducible repeat (first | refine blk_drewN ?_ _ | refine blk_drew ?_ | refine blk_alloc ?_ _)); exact BK800.out)) : gb811 ≠ gb800)); clear HO805; clear HO810; clear BK800; clear HB; have HO805 := n0_; have HO810 := n1_; have BK800 := n2_; have HB := n3_; have BK811 := n4_; have GW811 := n5_; have GE811 := n6_; have NB800_811 := n7_; have NB811_800 := n8_; clear n0_ n1_ n2_ n3_ n4_ n5_ n6_ n7_ n8_; clear hb hbox hg; have hnb57 := NB811_800.out; have hnc57 := NB800_811.out; have hcz58_0 : w56.cell? ⟨gb811, 0, none⟩ = some (.int .i64 0) := (blk_cell BK811.out 0).trans rfl; have hcz58_1 : w56.cell? ⟨gb811, 1, none⟩ = some (.slice none 0 0) := (blk_cell BK811.out 1).trans rfl; have hfz58_0 := blk_frozen BK811.out 0; have hfz58_1 := blk_frozen BK811.out 1; obtain ⟨Ao59, co59, eo59⟩ := Kd.S_slice HO810.out; subst eo59) | ((with_reducible refine gate_callee (f := 46) rfl ?_); refine goesL_ (some 18) rfl rfl Try.func46 (by kernel_rfl) rfl #[.agg #[.int .i64 t807, .slice Ao59 t808.length co59]] rfl (by (try simp only [List.map_toArray, List.map_cons, List.map_nil]); first | done | rfl | (simp only [List.length_drop, List.length_take]; rfl)) ?_; (with_reducible refine (impl_Even.calls k t807 _ _ t808 t812 _ ?side1 ?side2 A10.out).mono ?_); (case side1 => refine (Kd.S_reads' (e := 90) (base := w.heap.size) (ok := fun k_ => (True ∧ some k_ ≠ (.slice Ao52 t803.length co52 : Value).ownBlock)) (n := t808.length) (c := co59) ?_).2.2; exact (by (with_reducible repeat (first | apply Kd.S_alloc | apply Kd.S_drewN | apply Kd.S_drew)); exact (Kd.S_mono (Kd.S_far (p := ⟨gb811, 1, none⟩) (Kd.S_far (p := ⟨gb811, 0, none⟩) (Kd.S_types HO810.out BK811.out (by decide)) (fun _ hk => hk.2) (.int .i64 t807)) (fun _ hk => hk.2) (.slice Ao59 t808.length co59)) (fun _ h_ => h_.1)))); (case side2 => exact (Kd.S_reads' HO810.out).2.1); rintro e w60 ⟨rfl, hb⟩; refine ⟨_, rfl, ?_⟩; have n0_ := Aside0.mk (Kd.S_below (by (with_reducible repeat (first | apply Kd.S_alloc | apply Kd.S_drewN | apply Kd.S_drew)); exact (Kd.S_mono (Kd.S_far (p := ⟨gb811, 1, none⟩) (Kd.S_far (p := ⟨gb811, 0, none⟩) (Kd.S_types HO805.out BK811.out (by decide)) (fun _ hk => hk.2) (.int .i64 t807)) (fun _ hk => hk.2) (.slice Ao59 t808.length co59)) (fun _ h_ => h_.1))) hb); have n1_ := Aside0.mk (Kd.S_below (by (with_reducible repeat (first | apply Kd.S_alloc | apply Kd.S_drewN | apply Kd.S_drew)); exact (Kd.S_mono (Kd.S_far (p := ⟨gb811, 1, none⟩) (Kd.S_far (p := ⟨gb811, 0, none⟩) (Kd.S_types HO810.out BK811.out (by decide)) (fun _ hk => hk.2) (.int .i64 t807)) (fun _ hk => hk.2) (.slice Ao59 t808.length co59)) (fun _ h_ => h_.1))) hb); have n2_ := Aside0.mk (blk_below (g := gb800) (o := .cells #[.int .i64 a0_0, .slice A0_1 l0_1.length c0_1] 41 (0, 0)) (by (with_reducible repeat (first | refine blk_drewN ?_ _ | refine blk_drew ?_ | refine blk_alloc ?_ _)); refine blk_far ?_ NB800_811.out _; (with_reducible repeat (first | refine blk_drewN ?_ _ | refine blk_drew ?_ | refine blk_alloc ?_ _)); refine blk_far ?_ NB800_811.out _; (with_reducible repeat (first | refine blk_drewN ?_ _ | refine blk_drew ?_ | refine blk_alloc ?_ _)); exact BK800.out) hb); have n3_ := Aside0.mk (blk_below (g := gb811) (o := .cells #[.int .i64 t807, .slice Ao59 t808.length co59] 49 (0, 0)) (by (with_reducible repeat (first | refine blk_drewN ?_ _ | refine blk_drew ?_ | refine blk_alloc ?_ _)); refine blk_put (cs := #[.int .i64 t807, .slice none 0 0]) ?_ 1 _ rfl; (with_reducible repeat (first | refine blk_drewN ?_ _ | refine blk_drew ?_ | refine blk_alloc ?_ _)); refine blk_put (cs := #[.int .i64 0, .slice none 0 0]) ?_ 0 _ rfl; (with_reducible repeat (first | refine blk_drewN ?_ _ | refine blk_drew ?_ | refine blk_alloc ?_ _)); exact BK811.out) hb); have n4_ := Aside0.mk (below_step (by repeat (first | (with_reducible first | exact HB.out | apply below_alloc | apply pw_below_drewN | apply below_drew1 | refine below_set ?_ GE800.out | refine below_set ?_ GE811.out) | exact HB.out)) hb); clear HO805; clear HO810; clear BK800; clear BK811; clear HB; have HO805 := n0_; have HO810 := n1_; have BK800 := n2_; have BK811 := n3_; have HB := n4_; clear n0_ n1_ n2_ n3_ n4_; (try clear hb); (try clear hb2); (try clear hk); (try clear hi)))
        have n0_ := Aside0.mk (Kd.S_drew HO805.out)
        have n1_ := Aside0.mk (Kd.S_drew HO810.out)
        have n2_ := Aside0.mk (blk_drew BK800.out)
        have n3_ := Aside0.mk (blk_drew BK811.out)
        have n4_ := Aside0.mk (below_drew1 HB.out)
        clear HO805
        clear HO810
        clear BK800
        clear BK811
        clear HB
        have HO805 := n0_
        have HO810 := n1_
        have BK800 := n2_
        have BK811 := n3_
        have HB := n4_
        clear n0_ n1_ n2_ n3_ n4_
        refine start_ (n := 5) (S := fun w' => w'.cell? ⟨gb811, 0, none⟩ = some (.int .i64 t807) ∧ w'.cell? ⟨gb811, 1, none⟩ = some (.slice Ao59 t808.length co59) ∧ w'.cell? ⟨gb800, 0, none⟩ = some (.int .i64 a0_0) ∧ w'.cell? ⟨gb800, 1, none⟩ = some (.slice A0_1 l0_1.length c0_1)) (ds := []) #[false, false, false, false, false] (by kernel_rfl) rfl rfl ⟨(blk_cell BK811.out 0).trans rfl, (blk_cell BK811.out 1).trans rfl, (blk_cell BK800.out 0).trans rfl, (blk_cell BK800.out 1).trans rfl⟩ (fun hHeld => ?_)
        generalize w60.drew = w61 at HO805 HO810 BK800 BK811 HB hHeld ⊢
        refine take_ (i := 0) (N := some 22) (v := ?_) (a' := ?_) #[true, false, false, false, false] rfl rfl (by kernel_rfl) (fun _ _ _ h => h) (Or.inl ⟨by rfl, ?_⟩) hHeld ?_ ?_
        rotate_left
        · rintro w' ⟨s0, s1, s2, s3⟩
          go_simp
          with_reducible rfl
        rotate_left
        · simp only [Act.put, List.setIfInBounds_toArray, List.set_cons_zero, List.set_cons_succ, i64_w, i32_w]
          rfl
        refine take_ (i := 1) (N := some 23) (v := ?_) (a' := ?_) #[true, true, false, false, false] rfl rfl (by kernel_rfl) (fun _ _ _ h => h) (Or.inl ⟨by rfl, ?_⟩) hHeld ?_ ?_
        rotate_left
        · rintro w' ⟨s0, s1, s2, s3⟩
          go_simp
          with_reducible rfl
        rotate_left
        · simp only [Act.put, List.setIfInBounds_toArray, List.set_cons_zero, List.set_cons_succ, i64_w, i32_w]
          rfl
        refine one_ (i := 2) (N := some 24) #[true, true, true, false, false] rfl rfl (by kernel_rfl) (by decide) (fun K hK => ?_)
        refine goes_ Try.func26 (by kernel_rfl) rfl #[.agg #[.int .i64 a0_0, .slice A0_1 l0_1.length c0_1]] (by rfl) rfl rfl (by (try simp only [List.map_toArray, List.map_cons, List.map_nil]); first | done | rfl | (simp only [List.length_drop, List.length_take]; rfl)) ?_
        with_reducible refine (laws_toBook.calls k a0_0 _ _ l0_1 t813 t814 _ ?side1 ?side2 A26.out).mono ?_
        (case side1 => repeat (first | exact (Kd.C_below HR0_1.out HB.out) | (with_reducible refine Kd.C_alloc ?_ _) | (with_reducible refine Kd.C_drewN ?_ _) | (with_reducible refine Kd.C_drew ?_)))
        (case side2 => exact HC0_1.out)
        rintro e w62 ⟨v815, rfl, ho0, hb⟩
        refine ⟨_, rfl, ?_⟩
        have n0_ := Aside0.mk (Kd.S_elder' (by (with_reducible repeat (first | apply Kd.S_alloc | apply Kd.S_drewN | apply Kd.S_drew)); exact HO805.out) (Kd.S_base ho0) hb)
        have n1_ := Aside0.mk (Kd.S_elder' (by (with_reducible repeat (first | apply Kd.S_alloc | apply Kd.S_drewN | apply Kd.S_drew)); exact HO810.out) (Kd.S_base ho0) hb)
        have n2_ := Aside0.mk (Kd.S_lower (Kd.S_new' (Kd.S_new' ho0 (Kd.S_lt (by (with_reducible repeat (first | apply Kd.S_alloc | apply Kd.S_drewN | apply Kd.S_drew)); exact HO805.out))) (Kd.S_lt (by (with_reducible repeat (first | apply Kd.S_alloc | apply Kd.S_drewN | apply Kd.S_drew)); exact HO810.out))) (below_size (by repeat (first | (with_reducible first | exact HB.out | apply below_alloc | apply pw_below_drewN | apply below_drew1 | refine below_set ?_ GE800.out | refine below_set ?_ GE811.out) | exact HB.out))))
        have n3_ := Aside0.mk (blk_below (g := gb800) (o := .cells #[.int .i64 a0_0, .slice A0_1 l0_1.length c0_1] 41 (0, 0)) (by (with_reducible repeat (first | refine blk_drewN ?_ _ | refine blk_drew ?_ | refine blk_alloc ?_ _)); exact BK800.out) hb)
        have n4_ := Aside0.mk (blk_below (g := gb811) (o := .cells #[.int .i64 t807, .slice Ao59 t808.length co59] 49 (0, 0)) (by (with_reducible repeat (first | refine blk_drewN ?_ _ | refine blk_drew ?_ | refine blk_alloc ?_ _)); exact BK811.out) hb)
        have n5_ := Aside0.mk (below_step (by repeat (first | (with_reducible first | exact HB.out | apply below_alloc | apply pw_below_drewN | apply below_drew1 | refine below_set ?_ GE800.out | refine below_set ?_ GE811.out) | exact HB.out)) hb)
        clear HO805
        clear HO810
        clear BK800
        clear BK811
        clear HB
        have HO805 := n0_
        have HO810 := n1_
        have HO816 := n2_
        have BK800 := n3_
        have BK811 := n4_
        have HB := n5_
        clear n0_ n1_ n2_ n3_ n4_ n5_
        (try clear hb)
        (try clear hb2)
        (try clear hk)
        (try clear hi)
        (try clear ho0)
        obtain ⟨Ao63, co63, eo63⟩ := Kd.S_slice HO816.out
        (first | subst eo63 | (injection eo63 with f1_ f2_ f3_; have f4_ := f1_.symm; have f5_ := f3_.symm; clear f1_ f2_ f3_; subst f4_; subst f5_))
        refine hK.out _ _ ⟨(blk_cell BK811.out 0).trans rfl, (blk_cell BK811.out 1).trans rfl, (blk_cell BK800.out 0).trans rfl, (blk_cell BK800.out 1).trans rfl⟩ (fun hHeld => ?_)
        clear hK K
        refine norm_ (a' := ?_) ?_ ?_
        rotate_left
        · show Act.put _ (some 24) _ = _
          simp only [Act.put, List.setIfInBounds_toArray, List.set_cons_zero, List.set_cons_succ, i64_w, i32_w]
          rfl
        refine one_ (i := 3) (N := some 25) #[true, true, true, true, false] rfl rfl (by kernel_rfl) (by decide) (fun K hK => ?_)
        refine goes_ Try.func29 (by kernel_rfl) rfl #[.agg #[.int .i64 t807, .slice Ao59 t808.length co59], .agg #[.int .i64 t813, .slice Ao63 t814.length co63]] (by rfl) rfl rfl (by (try simp only [List.map_toArray, List.map_cons, List.map_nil]); first | done | rfl | (simp only [List.length_drop, List.length_take]; rfl)) ?_
        with_reducible refine (laws_eqBook.calls k t807 _ _ t808 t813 _ _ t814 false _ ?side1 ?side2 ?side3 ?side4 A27.out).mono ?_
        (case side1 => repeat (first | exact (Kd.S_reads' HO810.out).2.2 | (with_reducible refine Kd.C_alloc ?_ _) | (with_reducible refine Kd.C_drewN ?_ _) | (with_reducible refine Kd.C_drew ?_)))
        (case side2 => exact (Kd.S_reads' HO810.out).2.1)
        (case side3 => repeat (first | exact (Kd.S_reads' HO816.out).2.2 | (with_reducible refine Kd.C_alloc ?_ _) | (with_reducible refine Kd.C_drewN ?_ _) | (with_reducible refine Kd.C_drew ?_)))
        (case side4 => exact (Kd.S_reads' HO816.out).2.1)
        rintro e w64 ⟨rfl, hb⟩
        refine ⟨_, rfl, ?_⟩
        have n0_ := Aside0.mk (Kd.S_below (by (with_reducible repeat (first | apply Kd.S_alloc | apply Kd.S_drewN | apply Kd.S_drew)); exact HO805.out) hb)
        have n1_ := Aside0.mk (Kd.S_below (by (with_reducible repeat (first | apply Kd.S_alloc | apply Kd.S_drewN | apply Kd.S_drew)); exact HO810.out) hb)
        have n2_ := Aside0.mk (Kd.S_below (by (with_reducible repeat (first | apply Kd.S_alloc | apply Kd.S_drewN | apply Kd.S_drew)); exact HO816.out) hb)
        have n3_ := Aside0.mk (blk_below (g := gb800) (o := .cells #[.int .i64 a0_0, .slice A0_1 l0_1.length c0_1] 41 (0, 0)) (by (with_reducible repeat (first | refine blk_drewN ?_ _ | refine blk_drew ?_ | refine blk_alloc ?_ _)); exact BK800.out) hb)
        have n4_ := Aside0.mk (blk_below (g := gb811) (o := .cells #[.int .i64 t807, .slice Ao59 t808.length co59] 49 (0, 0)) (by (with_reducible repeat (first | refine blk_drewN ?_ _ | refine blk_drew ?_ | refine blk_alloc ?_ _)); exact BK811.out) hb)
        have n5_ := Aside0.mk (below_step (by repeat (first | (with_reducible first | exact HB.out | apply below_alloc | apply pw_below_drewN | apply below_drew1 | refine below_set ?_ GE800.out | refine below_set ?_ GE811.out) | exact HB.out)) hb)
        clear HO805
        clear HO810
        clear HO816
        clear BK800
        clear BK811
        clear HB
        have HO805 := n0_
        have HO810 := n1_
        have HO816 := n2_
        have BK800 := n3_
        have BK811 := n4_
        have HB := n5_
        clear n0_ n1_ n2_ n3_ n4_ n5_
        (try clear hb)
        (try clear hb2)
        (try clear hk)
        (try clear hi)
        refine hK.out _ _ ⟨(blk_cell BK811.out 0).trans rfl, (blk_cell BK811.out 1).trans rfl, (blk_cell BK800.out 0).trans rfl, (blk_cell BK800.out 1).trans rfl⟩ (fun hHeld => ?_)
        clear hK K
        refine norm_ (a' := ?_) ?_ ?_
        rotate_left
        · show Act.put _ (some 25) _ = _
          simp only [Act.put, List.setIfInBounds_toArray, List.set_cons_zero, List.set_cons_succ, i64_w, i32_w]
          rfl
        refine pure_ (i := 4) (N := some 26) (v := ?_) (a' := ?_) #[true, true, true, true, true] rfl rfl (by kernel_rfl) (fun _ _ _ h => h) (Or.inl ⟨by rfl, ?_⟩) ?_ ?_
        rotate_left
        · intro w'
          go_simp
          with_reducible rfl
        rotate_left
        · simp only [Act.put, List.setIfInBounds_toArray, List.set_cons_zero, List.set_cons_succ, i64_w, i32_w]
          rfl
        refine done_ (by kernel_rfl) ?_
        try go_wp2
        go_ret
        exact ⟨by first | rfl | (simp [errW_none, errW_some] <;> rfl) | (simp [*, errW_none, errW_some] <;> rfl), by repeat (first | (with_reducible first | exact HB.out | apply below_alloc | apply pw_below_drewN | apply below_drew1 | refine below_set ?_ GE800.out | refine below_set ?_ GE811.out) | exact HB.out)⟩

end Go.Proofs.Ytngjaajcdbodeaa.All

/- Opening of arguments: what reads as data of a type is of its kind. No condition. -/
namespace Go.Proofs.Ytngjaajcdbodeaa.Op
open Go.Proofs.YtngjaajcdbodeaaW.PrintWords
open Go.Deep
set_option linter.unusedVariables false

/-- What reads as data of type t is of the kind d, and good. -/
def Opens {α : Type} (P : Program) (t : TypeId) (d : Kd α) (good : α → Prop) : Prop :=
  ∀ {H : Type} {enc : TypeId × Value → H} {w : World} {base : Nat} {spare : Nat → Bool} {held : Bool} {fuel : Nat} {cs : List Value} {x : DataW H × List MemPlace},
    DataW.trod enc P w base spare held fuel t cs = some x → ∃ y, d.K w y cs ∧ good y

def goodInt (n : Int) : Prop := -9223372036854775808 ≤ n ∧ n ≤ 9223372036854775807

theorem goodInt_of_wf {n : Int} (h : (Lit.int .i64 n).wf = true) : goodInt n := by
  simp [Lit.wf, IntKind.min, IntKind.max, IntKind.signed, IntKind.bits] at h
  unfold goodInt
  omega

theorem opens_int {P : Program} {t : TypeId} (ht : P.underlying t = some (.int .i64)) : Opens P t (Kd.int .i64) goodInt := by
  intro H enc w base spare held fuel cs x h
  obtain ⟨n, rfl, _, hw⟩ := DataW.trod_int ht h
  exact ⟨n, rfl, goodInt_of_wf hw⟩

theorem opens_bool {P : Program} {t : TypeId} (ht : P.underlying t = some .bool) : Opens P t Kd.bool (fun _ => True) := by
  intro H enc w base spare held fuel cs x h
  obtain ⟨n, rfl, _⟩ := DataW.trod_bool ht h
  exact ⟨n, rfl, trivial⟩

theorem opens_slice {α : Type} {P : Program} {t e : TypeId} {d : Kd α} {good : α → Prop} (ht : P.underlying t = some (.slice e)) (hC : P.cellsOf e = d.sz) (he : Opens P e d good) :
    Opens P t (Kd.slice e d) (fun xs => xs.length ≤ 9223372036854775807 ∧ ∀ y ∈ xs, good y) := by
  intro H enc w base spare held fuel cs x h
  rcases open_slice ht h with ⟨rfl, _⟩ | ⟨a, len, cap, m, n, D, Pl, rfl, hb, hl, hm, hmm, rfl, hx⟩
  · exact ⟨[], ⟨none, 0, rfl, Nat.le_refl _, ⟨rfl, by simp, fun h => absurd h (Nat.lt_irrefl 0)⟩⟩, by simp, by simp⟩
  · have hlm : len ≤ m := by rw [hmm]; split <;> omega
    have hex : ∀ i : Nat, ∃ y : α ⊕ Unit, i < len → ∃ z cs', y = .inl z ∧ d.K w z cs' ∧ good z ∧ w.cells? base (a.add (i * d.sz)) d.sz = some cs' := by
      intro i
      by_cases hi : i < len
      · obtain ⟨cs', h1, h2⟩ := hx i (by omega)
        obtain ⟨z, hz, hg⟩ := he h2
        exact ⟨.inl z, fun _ => ⟨z, cs', rfl, hz, hg, by rw [← hC]; exact h1⟩⟩
      · exact ⟨.inr (), fun h => absurd h hi⟩
    obtain ⟨f, hf⟩ := Classical.axiomOfChoice hex
    have hlist : ∀ k, k ≤ len → ∃ ys : List α, ys.length = k ∧ ∀ i y, ys[i]? = some y → f i = .inl y := by
      intro k
      induction k with
      | zero => exact fun _ => ⟨[], rfl, fun i y h => by simp at h⟩
      | succ k ih =>
        intro hk
        obtain ⟨ys, hys, hall⟩ := ih (by omega)
        obtain ⟨z, cs', hz, _⟩ := hf k (by omega)
        refine ⟨ys ++ [z], by simp [hys], fun i y hy => ?_⟩
        rcases Nat.lt_or_ge i ys.length with hi | hi
        · rw [List.getElem?_append_left hi] at hy
          exact hall i y hy
        · have hik : i = k := by
            have := (List.getElem?_eq_some_iff.1 hy).1
            simp at this
            omega
          subst hik
          rw [List.getElem?_append_right (by omega)] at hy
          simp [hys] at hy
          rw [hz, hy]
    obtain ⟨ys, hys, hall⟩ := hlist len (Nat.le_refl _)
    have hget : ∀ i y, ys[i]? = some y → ∃ cs', d.K w y cs' ∧ good y ∧ w.cells? base (a.add (i * d.sz)) d.sz = some cs' := by
      intro i y hy
      have hi : i < len := by rw [← hys]; exact (List.getElem?_eq_some_iff.1 hy).1
      obtain ⟨z, cs', hz, hK, hg, hc⟩ := hf i hi
      have := hall i y hy
      rw [hz] at this
      cases this
      exact ⟨cs', hK, hg, hc⟩
    subst hys
    refine ⟨ys, ⟨some a, cap, rfl, hl, ⟨rfl, by unfold maxLen at hm; omega, fun _ => ⟨a, rfl, fun j p hp => ?_⟩⟩⟩, by unfold maxLen at hm; omega, fun y hy => ?_⟩
    · obtain ⟨cs', hK, _, hc⟩ := hget j p hp
      obtain ⟨_, hcl, hat⟩ := World.cells?_some hc
      refine ⟨cs', hcl, hK, fun i u hu => ?_⟩
      have hi : i < d.sz := by rw [← hcl]; exact (List.getElem?_eq_some_iff.1 hu).1
      have := hat i hi
      rw [← Go.Deep.add_add, this, hu]
    · obtain ⟨i, hi⟩ := List.getElem?_of_mem hy
      obtain ⟨_, _, hg, _⟩ := hget i y hi
      exact hg

theorem opens_pair2 {α β γ : Type} {P : Program} {t : TypeId} {f0 f1 : Field} {d0 : Kd α} {d1 : Kd β} {g0 : α → Prop} {g1 : β → Prop} (f : γ → α × β) (mk : α → β → γ) (hmk : ∀ a b, f (mk a b) = (a, b))
    (ht : P.underlying t = some (.struct #[f0, f1])) (hc : P.cellsOf t = d0.sz + d1.sz) (ho0 : f0.offset = 0) (ho1 : f1.offset = d0.sz) (hc0 : P.cellsOf f0.type = d0.sz) (hc1 : P.cellsOf f1.type = d1.sz)
    (h0 : Opens P f0.type d0 g0) (h1 : Opens P f1.type d1 g1) : Opens P t (Kd.iso (Kd.pair d0 d1) f) (fun y => g0 (f y).1 ∧ g1 (f y).2) := by
  intro H enc w base spare held fuel cs x h
  obtain ⟨y0, y1, n, _, hl, ht0, ht1⟩ := ChangeShapes.trod_struct2 ht h
  obtain ⟨a, ha, ga⟩ := h0 ht0
  obtain ⟨b, hb, gb⟩ := h1 ht1
  rw [ho0, hc0] at ha
  rw [ho1, hc1] at hb
  refine ⟨mk a b, ⟨_, _, ?_, by rw [hmk]; exact ha, by rw [hmk]; exact hb⟩, show g0 (f (mk a b)).1 ∧ g1 (f (mk a b)).2 by rw [hmk]; exact ⟨ga, gb⟩⟩
  rw [List.drop_zero, List.take_of_length_le (l := List.drop d0.sz cs) (by rw [List.length_drop]; omega), List.take_append_drop]

def goodByte (n : Int) : Prop := 0 ≤ n ∧ n ≤ 255

theorem opens_byte {P : Program} {t : TypeId} (ht : P.underlying t = some (.int .u8)) : Opens P t (Kd.int .u8) goodByte := by
  intro H enc w base spare held fuel cs x h
  obtain ⟨n, rfl, _, hw⟩ := DataW.trod_int ht h
  refine ⟨n, rfl, ?_⟩
  simp [Lit.wf, IntKind.min, IntKind.max, IntKind.signed, IntKind.bits] at hw
  unfold goodByte
  omega

theorem opens_int4 {γ : Type} {P : Program} {t : TypeId} {f0 f1 f2 f3 : Field} {g0 g1 g2 g3 : Int → Prop} (f : γ → Int × Int × Int × Int) (mk : Int → Int → Int → Int → γ) (hmk : ∀ a b c d, f (mk a b c d) = (a, b, c, d))
    (ht : P.underlying t = some (.struct #[f0, f1, f2, f3])) (hc : P.cellsOf t = 4) (ho0 : f0.offset = 0) (ho1 : f1.offset = 1) (ho2 : f2.offset = 2) (ho3 : f3.offset = 3)
    (hc0 : P.cellsOf f0.type = 1) (hc1 : P.cellsOf f1.type = 1) (hc2 : P.cellsOf f2.type = 1) (hc3 : P.cellsOf f3.type = 1)
    (h0 : Opens P f0.type (Kd.int .i64) g0) (h1 : Opens P f1.type (Kd.int .i64) g1) (h2 : Opens P f2.type (Kd.int .i64) g2) (h3 : Opens P f3.type (Kd.int .i64) g3) :
    Opens P t (Kd.iso (Kd.pair (Kd.int .i64) (Kd.pair (Kd.int .i64) (Kd.pair (Kd.int .i64) (Kd.int .i64)))) f) (fun y => g0 (f y).1 ∧ g1 (f y).2.1 ∧ g2 (f y).2.2.1 ∧ g3 (f y).2.2.2) := by
  intro H enc w base spare held fuel cs x h
  obtain ⟨xs, n, _, _, hl, hlen, hf⟩ := DataW.trod_struct ht h
  have hn : ∀ i, i < 4 → ∃ y, xs[i]? = some y := fun i hi => ⟨_, List.getElem?_eq_getElem (by rw [hlen]; exact hi)⟩
  obtain ⟨y0, e0⟩ := hn 0 (by omega)
  obtain ⟨y1, e1⟩ := hn 1 (by omega)
  obtain ⟨y2, e2⟩ := hn 2 (by omega)
  obtain ⟨y3, e3⟩ := hn 3 (by omega)
  obtain ⟨a, ha, ga⟩ := h0 ((hf 0 f0 rfl).trans e0)
  obtain ⟨b, hb, gb⟩ := h1 ((hf 1 f1 rfl).trans e1)
  obtain ⟨c, hcc, gc⟩ := h2 ((hf 2 f2 rfl).trans e2)
  obtain ⟨d, hd, gd⟩ := h3 ((hf 3 f3 rfl).trans e3)
  rw [ho0, hc0] at ha
  rw [ho1, hc1] at hb
  rw [ho2, hc2] at hcc
  rw [ho3, hc3] at hd
  rw [hc] at hl
  match cs, hl with
  | [v0, v1, v2, v3], _ =>
    have ea : v0 = .int .i64 a := by simpa [Kd.int, Kd.scalar] using ha
    have eb : v1 = .int .i64 b := by simpa [Kd.int, Kd.scalar] using hb
    have ec : v2 = .int .i64 c := by simpa [Kd.int, Kd.scalar] using hcc
    have ed : v3 = .int .i64 d := by simpa [Kd.int, Kd.scalar] using hd
    subst ea eb ec ed
    refine ⟨mk a b c d, ?_, ?_⟩
    · show (Kd.pair (Kd.int .i64) (Kd.pair (Kd.int .i64) (Kd.pair (Kd.int .i64) (Kd.int .i64)))).K w (f (mk a b c d)) _
      rw [hmk]
      exact ⟨[_], [_, _, _], rfl, rfl, ⟨[_], [_, _], rfl, rfl, ⟨[_], [_], rfl, rfl, rfl⟩⟩⟩
    · show g0 (f (mk a b c d)).1 ∧ g1 (f (mk a b c d)).2.1 ∧ g2 (f (mk a b c d)).2.2.1 ∧ g3 (f (mk a b c d)).2.2.2
      rw [hmk]
      exact ⟨ga, gb, gc, gd⟩

end Go.Proofs.Ytngjaajcdbodeaa.Op

/- What reads as data of the laws' argument types is of their kinds. -/
namespace Go.Proofs.Ytngjaajcdbodeaa.Op
open Go.Proofs.Ytngjaajcdbodeaa.All Go.Proofs.YtngjaajcdbodeaaW.PrintWords
def good3 (n : Int) : Prop := goodInt n
theorem op3 : Opens Try.prog 3 (Kd.int .i64) good3 := opens_int Try.underlying3
def good4 (_ : Bool) : Prop := True
theorem op4 : Opens Try.prog 4 Kd.bool good4 := opens_bool Try.underlying4
def good24 (x : S24) : Prop := good3 x.f0 ∧ good3 x.f1 ∧ good3 x.f2 ∧ good3 x.f3
theorem op24 : Opens Try.prog 24 k24 good24 := opens_int4 (fun x : S24 => (x.f0, x.f1, x.f2, x.f3)) (fun a b c d => ⟨a, b, c, d⟩) (fun _ _ _ _ => rfl) Try.underlying24 (by kernel_rfl) rfl rfl rfl rfl (by kernel_rfl) (by kernel_rfl) (by kernel_rfl) (by kernel_rfl) op3 op3 op3 op3
def good122 (x : S122) : Prop := good3 x.f0 ∧ good24 x.f1
theorem op122 : Opens Try.prog 122 k122 good122 := opens_pair2 (d0 := (Kd.int .i64)) (d1 := k24) (fun x : S122 => (x.f0, x.f1)) (fun a b => ⟨a, b⟩) (fun _ _ => rfl) Try.underlying122 (by kernel_rfl) rfl rfl (by kernel_rfl) (by kernel_rfl) op3 op24
def good42 (xs : List (S122)) : Prop := xs.length ≤ 9223372036854775807 ∧ ∀ y ∈ xs, good122 y
theorem op42 : Opens Try.prog 42 (Kd.slice 122 k122) good42 := opens_slice Try.underlying42 (by kernel_rfl) op122
def good44 (x : S44) : Prop := good4 x.f0 ∧ good42 x.f1
theorem op44 : Opens Try.prog 44 k44 good44 := opens_pair2 (d0 := Kd.bool) (d1 := (Kd.slice 122 k122)) (fun x : S44 => (x.f0, x.f1)) (fun a b => ⟨a, b⟩) (fun _ _ => rfl) Try.underlying44 (by kernel_rfl) rfl rfl (by kernel_rfl) (by kernel_rfl) op4 op42
def good118 (x : S118) : Prop := good4 x.f0 ∧ good44 x.f1
theorem op118 : Opens Try.prog 118 k118 good118 := opens_pair2 (d0 := Kd.bool) (d1 := k44) (fun x : S118 => (x.f0, x.f1)) (fun a b => ⟨a, b⟩) (fun _ _ => rfl) Try.underlying118 (by kernel_rfl) rfl rfl (by kernel_rfl) (by kernel_rfl) op4 op44
def good39 (xs : List (S118)) : Prop := xs.length ≤ 9223372036854775807 ∧ ∀ y ∈ xs, good118 y
theorem op39 : Opens Try.prog 39 (Kd.slice 118 k118) good39 := opens_slice Try.underlying39 (by kernel_rfl) op118
def good41 (x : (Int × List (S118))) : Prop := good3 x.1 ∧ good39 x.2
theorem op41 : Opens Try.prog 41 (Kd.iso (Kd.pair (Kd.int .i64) (Kd.slice 118 k118)) (fun x : (Int × List (S118)) => x)) good41 := opens_pair2 (d0 := (Kd.int .i64)) (d1 := (Kd.slice 118 k118)) (fun x : (Int × List (S118)) => x) (fun a b => (a, b)) (fun _ _ => rfl) Try.underlying41 (by kernel_rfl) rfl rfl (by kernel_rfl) (by kernel_rfl) op3 op39
end Go.Proofs.Ytngjaajcdbodeaa.Op

/- Plain laws of the printed functions over lists of entries: what is made of a list. No condition. -/
namespace Go.Proofs.Ytngjaajcdbodeaa.Pure
open Go.RowKit Go.Proofs.Ytngjaajcdbodeaa.All Go.Proofs.YtngjaajcdbodeaaW.PrintWords Go.Proofs.YtngjaajcdbodeaaW.PrintLast
set_option linter.unusedVariables false

def big : Nat := 1152921504606846976
theorem wrap_small {a : Int} (h0 : -9223372036854775808 ≤ a) (h1 : a ≤ 9223372036854775807) : wrap64 a = a := by
  unfold wrap64
  omega
theorem wrap_succ {i n : Nat} (h : i < n) (hn : n ≤ big) : wrap64 ((i : Int) + 1) = ((i + 1 : Nat) : Int) := by
  unfold big at hn
  rw [wrap_small (by omega) (by omega)]
  omega
/-- A loop, told from its end. -/
theorem down {P : Nat → Prop} : ∀ (n : Nat), (∀ i, i < n → P (i + 1) → P i) → P n → P 0
  | 0, _, h => h
  | n + 1, hs, h => down n (fun i hi => hs i (by omega)) (hs n (by omega) h)
/-- The same from i on. -/
theorem downFrom {P : Nat → Prop} (i : Nat) : ∀ (d : Nat), (∀ j, i ≤ j → j < i + d → P (j + 1) → P j) → P (i + d) → P i
  | 0, _, h => h
  | d + 1, hs, h => downFrom i d (fun j h0 hj => hs j h0 (by omega)) (hs (i + d) (by omega) (by omega) h)

theorem rdE_at (l : List En) (i : Nat) : rd_T103 l (i : Int) = l.getD i z103 := rfl
theorem rdB_at (l : List Bx) (i : Nat) : rd_T32 l (i : Int) = l.getD i z32 := rfl

/-- A loop that fills a row of the same length. -/
theorem fill_loop {α β : Type} {L : Nat → List α → List β → Int → Option (List β)} {f : α → β} {F : Nat → α → Option β} (d : α)
    (hstep : ∀ k (xs : List α) (acc : List β) (i : Nat), i < xs.length → acc.length = xs.length → L (k + 1) xs acc i = (F k (xs.getD i d)).bind fun y => L k xs (acc.set i y) (wrap64 ((i : Int) + 1)))
    (hstop : ∀ k (xs : List α) (acc : List β), L (k + 1) xs acc xs.length = some acc)
    (xs : List α) (hl : xs.length ≤ big) (hF : ∀ x ∈ xs, Evn (fun k => F k x) (f x)) (z : β) : Evn (fun k => L k xs (List.replicate xs.length z) 0) (xs.map f) := by
  have key : Evn (fun k => L k xs ((xs.take 0).map f ++ List.replicate (xs.length - 0) z) ((0 : Nat) : Int)) (xs.map f) := by
    refine down (P := fun i => Evn (fun k => L k xs ((xs.take i).map f ++ List.replicate (xs.length - i) z) (i : Int)) (xs.map f)) xs.length (fun i hi h => ?_) ?_
    · refine Evn.step (fun k => hstep k xs _ i hi (by simp; omega)) ?_
      refine Evn.bind (hF _ ?_) ?_
      · rw [List.getD_eq_getElem?_getD, List.getElem?_eq_getElem hi]
        exact List.getElem_mem hi
      · rw [wrap_succ hi hl]
        refine Evn.same h (fun k => ?_)
        congr 1
        have hi' : (List.map f (List.take i xs)).length = i := by simp; omega
        rw [List.set_append, if_neg (by omega), hi', Nat.sub_self]
        obtain ⟨m, hm⟩ : ∃ m, xs.length - i = m + 1 := ⟨xs.length - i - 1, by omega⟩
        rw [hm, show xs.length - (i + 1) = m from by omega, List.replicate_succ, List.set_cons_zero, List.take_succ_eq_append_getElem hi, List.map_append, List.append_assoc, List.getD_eq_getElem?_getD, List.getElem?_eq_getElem hi]
        rfl
    · refine Evn.step (fun k => ?_) (Evn.ret _)
      rw [hstop]
      simp
  simpa using key

def toB (b : LBx) : Bx := ⟨b.f0, b.f1, b.f2, b.f3⟩
def toE (e : LEn) : En := ⟨e.f0, toB e.f1⟩
theorem toEntryS_f (l : List LEn) (hl : l.length ≤ 1048576) : Evn (fun k => laws_toEntryS.f k l) (l.map toE) := by
  have h := fill_loop (L := laws_toEntryS.l0) (f := toE) (F := fun _ x => some (toE x)) z122 (fun k xs acc i hi ha => by
    simp only [laws_toEntryS.l0]
    rw [if_pos (by omega), if_pos (by omega)]
    simp only [laws_toEntry.f, laws_toBox.f, Option.bind_some]
    rw [if_pos (by omega)]
    rfl) (fun k xs acc => by simp only [laws_toEntryS.l0]; rw [if_neg (by omega)]) l (by unfold big; omega) (fun x _ => Evn.ret _) z103
  unfold laws_toEntryS.f
  refine Evn.pos (by omega) (Evn.pos (by omega) ?_)
  exact h

/-- A loop that compares a row with itself. -/
theorem same_loop {α : Type} {L : Nat → List α → List α → Int → Option Bool}
    (hstep : ∀ k (xs : List α) (i : Nat), i < xs.length → L (k + 1) xs xs i = L k xs xs (wrap64 ((i : Int) + 1)))
    (hstop : ∀ k (xs : List α), L (k + 1) xs xs xs.length = some true) (xs : List α) (hl : xs.length ≤ big) : Evn (fun k => L k xs xs 0) true := by
  refine down (P := fun i => Evn (fun k => L k xs xs (i : Int)) true) xs.length (fun i hi h => ?_) (Evn.step (fun k => hstop k xs) (Evn.ret _))
  refine Evn.step (fun k => hstep k xs i hi) ?_
  rw [wrap_succ hi hl]
  exact h
theorem eqBox_same (a b c d : Int) : laws_eqBox.f a b c d a b c d = some true := by simp [laws_eqBox.f]
theorem eqEntryS_same (l : List En) (hl : l.length ≤ big) : Evn (fun k => laws_eqEntryS.f k l l) true := by
  unfold laws_eqEntryS.f
  refine Evn.pos rfl ?_
  refine same_loop (L := laws_eqEntryS.l0) (fun k xs i hi => ?_) (fun k xs => ?_) l hl
  · simp only [laws_eqEntryS.l0]
    rw [if_pos (by omega), if_pos (by omega), if_pos (by omega)]
    simp only [laws_eqEntry.f, eqBox_same, Option.bind_some, if_true]
  · simp only [laws_eqEntryS.l0]
    rw [if_neg (by omega)]

/-- The count of what came in, and what it leaves of a bound. -/
theorem szEntryS_f (l : List LEn) (n : Int) (hn : 0 ≤ n ∧ n ≤ 1048576) (hl : l.length ≤ 9223372036854775807) : laws_szEntryS.f l n = some (if n < l.length then -1 else n - l.length) := by
  unfold laws_szEntryS.f
  rw [wrap_small (by omega) (by omega)]
  by_cases h : n < l.length
  · rw [if_pos (by omega), if_pos h]
  · rw [if_neg (by omega), if_neg h]

end Go.Proofs.Ytngjaajcdbodeaa.Pure

/- Plain laws of the printed functions that make, weigh and compare books. No condition. -/
namespace Go.Proofs.Ytngjaajcdbodeaa.Pure
open Go.RowKit Go.Proofs.Ytngjaajcdbodeaa.All Go.Proofs.YtngjaajcdbodeaaW.PrintWords Go.Proofs.YtngjaajcdbodeaaW.PrintLast
set_option linter.unusedVariables false

abbrev LPg := S118
abbrev Pg := S90
abbrev Nd := S54
abbrev zPg : Pg := z90
def toPg (p : LPg) : Pg := ⟨p.f0, ⟨p.f1.f0, p.f1.f1.map toE⟩⟩
/-- How many entries the pages have together. -/
def heap (l : List LPg) : Nat := (l.map fun p => p.f1.f1.length).sum
theorem heap_snoc (l : List LPg) (i : Nat) (h : i < l.length) : heap (l.take (i + 1)) = heap (l.take i) + l[i].f1.f1.length := by
  unfold heap
  rw [List.take_succ_eq_append_getElem h, List.map_append, List.sum_append]
  simp
theorem heap_le (l : List LPg) (i : Nat) : heap (l.take i) ≤ heap l := by
  unfold heap
  rw [← List.take_append_drop i l, List.map_append, List.sum_append]
  simp
theorem heap_mem (l : List LPg) (p : LPg) (h : p ∈ l) : p.f1.f1.length ≤ heap l := by
  obtain ⟨i, hi, rfl⟩ := List.getElem_of_mem h
  have h1 := heap_snoc l i hi
  have h2 := heap_le l (i + 1)
  omega
theorem getD_LPg (l : List LPg) (i : Nat) (h : i < l.length) : l.getD i z118 = l[i] := by rw [List.getD_eq_getElem?_getD, List.getElem?_eq_getElem h]; rfl
theorem rdLPg_at (l : List LPg) (i : Nat) (h : i < l.length) : rd_T118 l (i : Int) = l[i] := getD_LPg l i h
theorem rdPg_at (l : List Pg) (i : Nat) (h : i < l.length) : rd_T90 l (i : Int) = l[i] := by
  show l.getD i zPg = l[i]
  rw [List.getD_eq_getElem?_getD, List.getElem?_eq_getElem h]; rfl

theorem szPage_f (a b : Bool) (l : List LEn) (n : Int) (hn : 0 ≤ n ∧ n ≤ 1048576) (hl : l.length ≤ 9223372036854775807) : laws_szPage.f a b l n = some (if n < l.length then -1 else n - l.length) := by
  unfold laws_szPage.f laws_szNode.f
  rw [szEntryS_f l n hn hl]
  simp only [Option.bind_some]
  by_cases h : n < l.length
  · simp [if_pos h]
  · rw [if_neg h, if_neg (by omega)]
    simp only [Option.bind_some]
    rw [if_neg (by omega)]
/-- What is weighed: -1 where it is too much. -/
theorem szPageS_f (l : List LPg) (n : Int) (hn : 0 ≤ n ∧ n ≤ 1048576) (hl : l.length ≤ 9223372036854775807) (hp : ∀ p ∈ l, p.f1.f1.length ≤ 9223372036854775807) :
    Evn (fun k => laws_szPageS.f k l n) (if n < l.length + heap l then -1 else n - l.length - heap l) := by
  unfold laws_szPageS.f
  rw [wrap_small (by omega) (by omega)]
  by_cases h0 : n - l.length < 0
  · rw [if_pos (show n < l.length + heap l by omega)]
    exact Evn.pos h0 (Evn.ret _)
  · refine Evn.neg h0 ?_
    have hb : l.length ≤ big := by unfold big; omega
    have key : ∀ i, ∀ hi : i < l.length, ∀ k (m : Int), 0 ≤ m → m ≤ 1048576 → laws_szPageS.l0 (k + 1) l m (i : Int) = if m < (l[i]'hi).f1.f1.length then some (-1) else laws_szPageS.l0 k l (m - (l[i]'hi).f1.f1.length) ((i + 1 : Nat) : Int) := by
      intro i hi k m hm0 hm1
      rw [laws_szPageS.l0, if_pos (by omega), if_pos (by omega), rdLPg_at l i hi, szPage_f _ _ _ _ ⟨hm0, hm1⟩ (hp _ (List.getElem_mem hi)), Option.bind_some, wrap_succ hi hb]
      by_cases hm : m < (l[i]).f1.f1.length
      · rw [if_pos hm, if_pos hm, if_pos (by omega)]
      · rw [if_neg hm, if_neg hm, if_neg (by omega)]
    have hend : ∀ k (m : Int), laws_szPageS.l0 (k + 1) l m (l.length : Int) = some m := fun k m => by rw [laws_szPageS.l0, if_neg (by omega)]
    by_cases hbig : n < l.length + heap l
    · rw [if_pos hbig]
      have := down (P := fun i => 0 ≤ n - l.length - heap (l.take i) → Evn (fun k => laws_szPageS.l0 k l (n - l.length - heap (l.take i)) (i : Int)) (-1)) l.length (fun i hi h hm => ?_) (fun hm => by rw [List.take_length] at hm; omega)
      · have h1 := this (by simp [heap]; omega)
        simpa [heap] using h1
      · refine Evn.step (fun k => key i hi k _ hm (by omega)) ?_
        by_cases hc : n - l.length - heap (l.take i) < (l[i]).f1.f1.length
        · exact Evn.pos hc (Evn.ret _)
        · refine Evn.neg hc ?_
          have hs := heap_snoc l i hi
          rw [show n - l.length - heap (l.take i) - (l[i]).f1.f1.length = n - l.length - heap (l.take (i + 1)) by omega]
          exact h (by omega)
    · rw [if_neg hbig]
      have := down (P := fun i => Evn (fun k => laws_szPageS.l0 k l (n - l.length - heap (l.take i)) (i : Int)) (n - l.length - heap l)) l.length (fun i hi h => ?_) (Evn.step (fun k => hend k _) (by rw [List.take_length]; exact Evn.ret _))
      · simpa [heap] using this
      · have hs := heap_snoc l i hi
        have hle := heap_le l (i + 1)
        refine Evn.step (fun k => key i hi k _ (by omega) (by omega)) (Evn.neg (by omega) ?_)
        rw [show n - l.length - heap (l.take i) - (l[i]).f1.f1.length = n - l.length - heap (l.take (i + 1)) by omega]
        exact h
theorem szBook_f (a : Int) (l : List LPg) (n : Int) (hn : 0 ≤ n ∧ n ≤ 1048576) (hl : l.length ≤ 9223372036854775807) (hp : ∀ p ∈ l, p.f1.f1.length ≤ 9223372036854775807) :
    Evn (fun k => laws_szBook.f k a l n) (if n < l.length + heap l then -1 else n - l.length - heap l) := by
  unfold laws_szBook.f
  refine Evn.bind (szPageS_f l n hn hl hp) ?_
  by_cases h : n < l.length + heap l
  · rw [if_pos h]
    exact Evn.ret _
  · rw [if_neg h, if_neg (by omega)]
    exact Evn.ret _

theorem toPage_f (p : LPg) (h : p.f1.f1.length ≤ 1048576) : Evn (fun k => laws_toPage.f k p.f0 p.f1.f0 p.f1.f1) (p.f0, p.f1.f0, p.f1.f1.map toE) := by
  unfold laws_toPage.f laws_toNode.f
  exact Evn.bind (Evn.bind (toEntryS_f _ h) (Evn.ret _)) (Evn.ret _)
theorem toPageS_f (l : List LPg) (hl : l.length ≤ 1048576) (hp : ∀ p ∈ l, p.f1.f1.length ≤ 1048576) : Evn (fun k => laws_toPageS.f k l) (l.map toPg) := by
  have h := fill_loop (L := laws_toPageS.l0) (f := toPg) (F := fun k p => (laws_toPage.f k p.f0 p.f1.f0 p.f1.f1).bind fun t => some (⟨t.1, ⟨t.2.1, t.2.2⟩⟩ : Pg)) z118 (fun k xs acc i hi ha => by
    simp only [laws_toPageS.l0]
    rw [if_pos (by omega), if_pos (by omega), rdLPg_at xs i hi, getD_LPg xs i hi]
    cases laws_toPage.f k (xs[i]).f0 (xs[i]).f1.f0 (xs[i]).f1.f1 with
    | none => rfl
    | some t =>
      simp only [Option.bind_some]
      rw [if_pos (by omega)]
      rfl) (fun k xs acc => by simp only [laws_toPageS.l0]; rw [if_neg (by omega)]) l (by unfold big; omega) (fun x hx => Evn.bind (toPage_f x (hp x hx)) (Evn.ret _)) zPg
  unfold laws_toPageS.f
  exact Evn.pos (by omega) (Evn.pos (by omega) h)
theorem toBook_f (a : Int) (l : List LPg) (hl : l.length ≤ 1048576) (hp : ∀ p ∈ l, p.f1.f1.length ≤ 1048576) : Evn (fun k => laws_toBook.f k a l) (a, l.map toPg) := by
  unfold laws_toBook.f
  exact Evn.bind (toPageS_f l hl hp) (Evn.ret _)

theorem eqNode_same (b : Bool) (l : List En) (hl : l.length ≤ big) : Evn (fun k => laws_eqNode.f k b l b l) true := by
  unfold laws_eqNode.f
  exact Evn.neg (by simp) (Evn.bind (eqEntryS_same l hl) (Evn.ret _))
theorem eqPageS_same (l : List Pg) (hl : l.length ≤ big) (hp : ∀ p ∈ l, p.f1.f1.length ≤ big) : Evn (fun k => laws_eqPageS.f k l l) true := by
  unfold laws_eqPageS.f
  refine Evn.pos rfl ?_
  refine down (P := fun i => Evn (fun k => laws_eqPageS.l0 k l l (i : Int)) true) l.length (fun i hi h => ?_) (Evn.step (fun k => by rw [laws_eqPageS.l0, if_neg (by omega)]) (Evn.ret _))
  refine Evn.step (fun k => by rw [laws_eqPageS.l0, if_pos (by omega), if_pos (by omega), if_pos (by omega), rdPg_at l i hi, wrap_succ hi hl]) ?_
  refine Evn.bind (a := true) ?_ (Evn.pos rfl h)
  unfold laws_eqPage.f
  exact Evn.neg (by simp) (Evn.bind (eqNode_same _ _ (hp _ (List.getElem_mem hi))) (Evn.ret _))
theorem eqBook_same (a : Int) (l : List Pg) (hl : l.length ≤ big) (hp : ∀ p ∈ l, p.f1.f1.length ≤ big) : Evn (fun k => laws_eqBook.f k a l a l) true := by
  unfold laws_eqBook.f
  exact Evn.pos rfl (Evn.bind (eqPageS_same l hl hp) (Evn.ret _))

/-- What a law over a book does: weigh it, make it, ask both, compare. -/
structure Small (l : List LPg) : Prop where
  len : l.length ≤ 1048576
  ent : ∀ p ∈ l, p.f1.f1.length ≤ 1048576
  sum : l.length + heap l ≤ 1048576
theorem Small.of (l : List LPg) (h : l.length + heap l ≤ 1048576) : Small l := ⟨by omega, fun p hp => by have := heap_mem l p hp; omega, h⟩
theorem Small.made (l : List LPg) (h : Small l) : (l.map toPg).length ≤ 1048576 ∧ ∀ p ∈ l.map toPg, p.f1.f1.length ≤ 1048576 := by
  refine ⟨by rw [List.length_map]; exact h.len, fun p hp => ?_⟩
  obtain ⟨q, hq, rfl⟩ := List.mem_map.mp hp
  show (q.f1.f1.map toE).length ≤ _
  rw [List.length_map]
  exact h.ent q hq
theorem big_of {n : Nat} (h : n ≤ 1048576) : n ≤ big := by unfold big; omega

end Go.Proofs.Ytngjaajcdbodeaa.Pure

/- The walk over a book ends, and each page that it gives is there, is used, and comes once. No condition. -/
namespace Go.Proofs.Ytngjaajcdbodeaa.Pure
open Go.RowKit Go.Proofs.Ytngjaajcdbodeaa.All Go.Proofs.YtngjaajcdbodeaaW.PrintWords Go.Proofs.YtngjaajcdbodeaaW.PrintLast
set_option linter.unusedVariables false

theorem nodup_sub : ∀ (l u : List Int), l.Nodup → (∀ x ∈ l, x ∈ u) → l.length ≤ u.length
  | [], u, _, _ => Nat.zero_le _
  | a :: l, u, hn, hs => by
    rw [List.nodup_cons] at hn
    have ha : a ∈ u := hs a (List.mem_cons_self ..)
    have h1 := nodup_sub l (u.erase a) hn.2 (fun x hx => by
      have hne : x ≠ a := fun e => hn.1 (e ▸ hx)
      exact (List.mem_erase_of_ne hne).2 (hs x (List.mem_cons_of_mem _ hx)))
    rw [List.length_erase_of_mem ha] at h1
    have h2 := List.length_pos_of_mem ha
    simp only [List.length_cons]
    omega
theorem nodup_full (l u : List Int) (hn : l.Nodup) (hs : ∀ x ∈ l, x ∈ u) (hl : u.length ≤ l.length) : ∀ x ∈ u, x ∈ l := by
  intro x hx
  by_cases h : x ∈ l
  · exact h
  · have := nodup_sub (x :: l) u (List.nodup_cons.2 ⟨h, hn⟩) (fun y hy => by
      rcases List.mem_cons.1 hy with e | e
      · exact e ▸ hx
      · exact hs y e)
    simp only [List.length_cons] at this
    omega
def upto (n : Nat) : List Int := (List.range n).map fun (i : Nat) => (i : Int)
theorem upto_len (n : Nat) : (upto n).length = n := by simp [upto]
theorem mem_upto {n : Nat} {x : Int} : x ∈ upto n ↔ 0 ≤ x ∧ x < n := by
  unfold upto
  rw [List.mem_map]
  constructor
  · rintro ⟨i, hi, rfl⟩
    rw [List.mem_range] at hi
    omega
  · intro h
    exact ⟨x.toNat, List.mem_range.2 (by omega), by omega⟩

/-- Pages that are there and used, each once. -/
def Once (ps : List Pg) (out : List Int) : Prop := out.Nodup ∧ ∀ i ∈ out, pgOk ps i
theorem Once.len {ps : List Pg} {out : List Int} (h : Once ps out) : out.length ≤ ps.length := by
  have := nodup_sub out (upto ps.length) h.1 (fun x hx => mem_upto.2 ⟨(h.2 x hx).1, (h.2 x hx).2.1⟩)
  rwa [upto_len] at this
theorem Once.nil (ps : List Pg) : Once ps [] := ⟨List.nodup_nil, fun _ h => absurd h (List.not_mem_nil)⟩
theorem Once.snoc {ps : List Pg} {out : List Int} (h : Once ps out) {i : Int} (hi : pgOk ps i) (hn : i ∉ out) : Once ps (out ++ [i]) := by
  refine ⟨?_, fun x hx => ?_⟩
  · rw [List.nodup_append]
    refine ⟨h.1, by simp, ?_⟩
    intro a ha b hb e
    rw [List.mem_singleton] at hb
    subst hb
    subst e
    exact hn ha
  · rcases List.mem_append.1 hx with hx | hx
    · exact h.2 x hx
    · rw [List.mem_singleton] at hx
      exact hx ▸ hi

theorem walkL_ends (ps : List Pg) (n : Nat) (ih : ∀ out, Once ps out → ps.length ≤ out.length + n → ∀ i, ∃ r, Evn (fun k => walkM k ps i out) r ∧ Once ps r ∧ out.length ≤ r.length) (b : Bool) (es : List En) (he : es.length ≤ 1048576) :
    ∀ d x : Nat, x + d = es.length → ∀ o, Once ps o → ps.length ≤ o.length + n → ∃ r, Evn (fun k => walkL k ps b es o (x : Int)) r ∧ Once ps r ∧ o.length ≤ r.length
  | 0, x, hx, o, ho, hn => ⟨o, Evn.step (fun k => by rw [walkL, if_neg (by omega)]) (Evn.ret _), ho, Nat.le_refl _⟩
  | d + 1, x, hx, o, ho, hn => by
    cases b with
    | true => exact ⟨o, Evn.step (fun k => by rw [walkL, if_pos (by omega), if_pos rfl]) (Evn.ret _), ho, Nat.le_refl _⟩
    | false =>
      obtain ⟨r1, h1, o1, l1⟩ := ih o ho hn (rd_T103 es (x : Int)).f0
      obtain ⟨r2, h2, o2, l2⟩ := walkL_ends ps n ih false es he d (x + 1) (by omega) r1 o1 (by omega)
      have hw : wrap64 ((x : Int) + 1) = ((x + 1 : Nat) : Int) := by
        unfold wrap64
        omega
      exact ⟨r2, Evn.step (fun k => by rw [walkL, if_pos (by omega), if_neg (by decide), if_pos (by omega), hw]) (Evn.bind h1 h2), o2, by omega⟩
theorem walk_ends (ps : List Pg) (hp : ps.length ≤ 1048576) (he : ∀ p ∈ ps, p.f1.f1.length ≤ 1048576) : ∀ n out, Once ps out → ps.length ≤ out.length + n → ∀ i, ∃ r, Evn (fun k => walkM k ps i out) r ∧ Once ps r ∧ out.length ≤ r.length := by
  intro n
  induction n with
  | zero =>
    intro out ho hn i
    have hl := ho.len
    by_cases h1 : pgOk ps i
    · by_cases h2 : i ∈ out
      · exact ⟨out, Evn.step (fun k => by rw [walkM, if_pos h1, if_pos (by omega), if_pos h2]) (Evn.ret _), ho, Nat.le_refl _⟩
      · have := (ho.snoc h1 h2).len
        rw [List.length_append, List.length_singleton] at this
        omega
    · exact ⟨out, Evn.step (fun k => by rw [walkM, if_neg h1]) (Evn.ret _), ho, Nat.le_refl _⟩
  | succ n ih =>
    intro out ho hn i
    have hl := ho.len
    by_cases h1 : pgOk ps i
    · by_cases h2 : i ∈ out
      · exact ⟨out, Evn.step (fun k => by rw [walkM, if_pos h1, if_pos (by omega), if_pos h2]) (Evn.ret _), ho, Nat.le_refl _⟩
      · have hes : (rd_T90 ps i).f1.f1.length ≤ 1048576 := by
          obtain ⟨m, rfl⟩ : ∃ m : Nat, i = (m : Int) := ⟨i.toNat, by have := h1.1; omega⟩
          have hm : m < ps.length := by have := h1.2.1; omega
          rw [rdPg_at ps m hm]
          exact he _ (List.getElem_mem hm)
        obtain ⟨r, hr, h3, h4⟩ := walkL_ends ps n ih _ _ hes _ 0 (Nat.zero_add _) (out ++ [i]) (ho.snoc h1 h2) (by rw [List.length_append, List.length_singleton]; omega)
        refine ⟨r, Evn.step (fun k => by rw [walkM, if_pos h1, if_pos (by omega), if_neg h2]; rfl) hr, h3, ?_⟩
        rw [List.length_append, List.length_singleton] at h4
        omega
    · exact ⟨out, Evn.step (fun k => by rw [walkM, if_neg h1]) (Evn.ret _), ho, Nat.le_refl _⟩
/-- What is reached from the root on. -/
theorem reach_ends (ps : List Pg) (hp : ps.length ≤ 1048576) (he : ∀ p ∈ ps, p.f1.f1.length ≤ 1048576) (i : Int) : ∃ r, Evn (fun k => walkM k ps i []) r ∧ Once ps r := by
  obtain ⟨r, h1, h2, _⟩ := walk_ends ps hp he ps.length [] (Once.nil ps) (by simp) i
  exact ⟨r, h1, h2⟩

end Go.Proofs.Ytngjaajcdbodeaa.Pure

/- What the walk over a book reaches: it is closed under the entries of inner pages, and each page but the root stands behind one that names it. No condition. -/
namespace Go.Proofs.Ytngjaajcdbodeaa.Pure
open Go.RowKit Go.Proofs.Ytngjaajcdbodeaa.All Go.Proofs.YtngjaajcdbodeaaW.PrintWords Go.Proofs.YtngjaajcdbodeaaW.PrintLast
set_option linter.unusedVariables false

/-- The pages that an inner page names. -/
def kids (ps : List Pg) (i : Int) : List Int := if (rd_T90 ps i).f1.f0 = true then [] else (rd_T90 ps i).f1.f1.map (fun e => e.f0)
/-- Each page is the root, or is named by one ahead of it. -/
def Led (ps : List Pg) (root : Int) (l : List Int) : Prop := ∀ a j b, l = a ++ j :: b → j = root ∨ ∃ p ∈ a, j ∈ kids ps p
theorem Led.nil (ps : List Pg) (root : Int) : Led ps root [] := fun a j b h => by simp at h
theorem Led.snoc {ps : List Pg} {root : Int} {l : List Int} {i : Int} (h : Led ps root l) (hi : i = root ∨ ∃ p ∈ l, i ∈ kids ps p) : Led ps root (l ++ [i]) := by
  intro a j b e
  rcases List.eq_nil_or_concat b with hb | ⟨b', x, hb⟩
  · subst hb
    have := List.append_inj' e rfl
    obtain ⟨rfl, h2⟩ := this
    injection h2 with h2
    subst h2
    exact hi
  · subst hb
    have e2 : l ++ [i] = (a ++ j :: b') ++ [x] := by rw [e]; simp
    have := List.append_inj' e2 rfl
    exact h a j b' this.1
theorem walkL_leaf' {k : Nat} {ps : List Pg} {es : List En} {o r : List Int} {x : Int} (h : walkL k ps true es o x = some r) : r = o := by
  cases k with
  | zero => simp [walkL] at h
  | succ k =>
    rw [walkL, if_pos rfl] at h
    split at h <;> exact (Option.some.inj h).symm
/-- What is new is closed. -/
def Shut (ps : List Pg) (out r : List Int) : Prop := ∀ j ∈ r, j ∈ out ∨ ∀ c ∈ kids ps j, pgOk ps c → c ∈ r
theorem walk_tree (ps : List Pg) (root : Int) (he : ∀ p ∈ ps, p.f1.f1.length ≤ 1048576) : ∀ k,
    (∀ i out r, Led ps root out → (i = root ∨ ∃ p ∈ out, i ∈ kids ps p) → walkM k ps i out = some r → Led ps root r ∧ (∀ j ∈ out, j ∈ r) ∧ (pgOk ps i → i ∈ r) ∧ Shut ps out r) ∧
    (∀ (j : Int) (out r : List Int) (x : Nat), Led ps root out → j ∈ out → pgOk ps j → (rd_T90 ps j).f1.f0 = false → walkL k ps false (rd_T90 ps j).f1.f1 out (x : Int) = some r →
      Led ps root r ∧ (∀ j ∈ out, j ∈ r) ∧ (∀ c ∈ (kids ps j).drop x, pgOk ps c → c ∈ r) ∧ Shut ps out r)
  | 0 => ⟨fun _ _ _ _ _ h => by simp [walkM] at h, fun _ _ _ _ _ _ _ _ h => by simp [walkL] at h⟩
  | k + 1 => by
    obtain ⟨ih1, ih2⟩ := walk_tree ps root he k
    constructor
    · intro i out r hl hi h
      rw [walkM] at h
      by_cases h1 : pgOk ps i
      · rw [if_pos h1] at h
        by_cases h3 : out.length < 17592186044415
        · rw [if_pos h3] at h
          by_cases h2 : i ∈ out
          · rw [if_pos h2] at h
            obtain rfl := Option.some.inj h
            exact ⟨hl, fun _ h => h, fun _ => h2, fun j hj => .inl hj⟩
          · rw [if_neg h2] at h
            have hl2 := hl.snoc hi
            have hin : i ∈ out ++ [i] := List.mem_append_right _ (List.mem_singleton.2 rfl)
            cases hb : (rd_T90 ps i).f1.f0 with
            | true =>
              rw [hb] at h
              obtain rfl := walkL_leaf' h
              refine ⟨hl2, fun j hj => List.mem_append_left _ hj, fun _ => hin, fun j hj => ?_⟩
              rcases List.mem_append.1 hj with hj | hj
              · exact .inl hj
              · rw [List.mem_singleton] at hj
                subst hj
                refine .inr (fun c hc => ?_)
                unfold kids at hc
                rw [if_pos hb] at hc
                exact absurd hc List.not_mem_nil
            | false =>
              rw [hb] at h
              obtain ⟨a1, a2, a3, a4⟩ := ih2 i (out ++ [i]) r 0 hl2 hin h1 hb h
              refine ⟨a1, fun j hj => a2 j (List.mem_append_left _ hj), fun _ => a2 i hin, fun j hj => ?_⟩
              rcases a4 j hj with hj2 | hj2
              · rcases List.mem_append.1 hj2 with hj2 | hj2
                · exact .inl hj2
                · rw [List.mem_singleton] at hj2
                  subst hj2
                  exact .inr (fun c hc => a3 c (by rwa [List.drop_zero]))
              · exact .inr hj2
        · rw [if_neg h3] at h
          exact absurd h (by simp)
      · rw [if_neg h1] at h
        obtain rfl := Option.some.inj h
        exact ⟨hl, fun _ h => h, fun h => absurd h h1, fun j hj => .inl hj⟩
    · intro j out r x hl hj hjo hb h
      have hes : (rd_T90 ps j).f1.f1.length ≤ 1048576 := by
        obtain ⟨m, rfl⟩ : ∃ m : Nat, j = (m : Int) := ⟨j.toNat, by have := hjo.1; omega⟩
        have hm : m < ps.length := by have := hjo.2.1; omega
        rw [rdPg_at ps m hm]
        exact he _ (List.getElem_mem hm)
      have hk : kids ps j = (rd_T90 ps j).f1.f1.map (fun e => e.f0) := by
        unfold kids
        rw [if_neg (by rw [hb]; decide)]
      rw [walkL] at h
      by_cases hx : x < (rd_T90 ps j).f1.f1.length
      · rw [if_pos (by omega), if_neg (by decide), if_pos (by omega)] at h
        obtain ⟨o, ho, h⟩ := Option.bind_eq_some_iff.mp h
        have hw : wrap64 ((x : Int) + 1) = ((x + 1 : Nat) : Int) := by
          unfold wrap64
          omega
        rw [hw] at h
        have hrd : (rd_T103 (rd_T90 ps j).f1.f1 (x : Int)).f0 = (kids ps j)[x]'(by rw [hk, List.length_map]; exact hx) := by
          have e0 : ∀ (l : List En) (h : x < l.length), (l.getD x z103).f0 = (l.map (fun e => e.f0))[x]'(by rw [List.length_map]; exact h) := fun l h => by
            rw [List.getD_eq_getElem?_getD, List.getElem?_eq_getElem h]
            simp
          simp only [hk]
          exact e0 _ hx
        rw [hrd] at ho
        have hmem : (kids ps j)[x]'(by rw [hk, List.length_map]; exact hx) ∈ kids ps j := List.getElem_mem _
        obtain ⟨a1, a2, a3, a4⟩ := ih1 _ out o hl (.inr ⟨j, hj, hmem⟩) ho
        obtain ⟨b1, b2, b3, b4⟩ := ih2 j o r (x + 1) a1 (a2 j hj) hjo hb h
        refine ⟨b1, fun q hq => b2 q (a2 q hq), fun c hc hco => ?_, fun q hq => ?_⟩
        · rw [List.drop_eq_getElem_cons (by rw [hk, List.length_map]; exact hx)] at hc
          rcases List.mem_cons.1 hc with hc | hc
          · subst hc
            exact b2 _ (a3 hco)
          · exact b3 c hc hco
        · rcases b4 q hq with hq | hq
          · rcases a4 q hq with hq | hq
            · exact .inl hq
            · exact .inr (fun c hc hco => b2 c (hq c hc hco))
          · exact .inr hq
      · rw [if_neg (by omega)] at h
        obtain rfl := Option.some.inj h
        refine ⟨hl, fun _ h => h, fun c hc => ?_, fun q hq => .inl hq⟩
        rw [List.drop_eq_nil_of_le (by rw [hk, List.length_map]; omega)] at hc
        exact absurd hc List.not_mem_nil
/-- What is reached from the root on. -/
structure Reached (ps : List Pg) (root : Int) (r : List Int) : Prop where
  once : Once ps r
  led : Led ps root r
  shut : ∀ j ∈ r, ∀ c ∈ kids ps j, pgOk ps c → c ∈ r
  root_mem : pgOk ps root → root ∈ r
  none : ¬ pgOk ps root → r = []
theorem reached (ps : List Pg) (hp : ps.length ≤ 1048576) (he : ∀ p ∈ ps, p.f1.f1.length ≤ 1048576) (i : Int) : ∃ r, Evn (fun k => walkM k ps i []) r ∧ Reached ps i r := by
  obtain ⟨r, ⟨K, hK⟩, h2⟩ := reach_ends ps hp he i
  obtain ⟨a1, a2, a3, a4⟩ := (walk_tree ps i he K).1 i [] r (Led.nil _ _) (.inl rfl) (hK K (Nat.le_refl _))
  refine ⟨r, ⟨K, hK⟩, h2, a1, fun j hj => ?_, a3, fun hno => ?_⟩
  · rcases a4 j hj with h | h
    · exact absurd h List.not_mem_nil
    · exact h
  · have h : walkM (K + 1) ps i [] = some r := hK (K + 1) (by omega)
    rw [walkM, if_neg hno] at h
    exact (Option.some.inj h).symm

end Go.Proofs.Ytngjaajcdbodeaa.Pure

/- Plain laws of the printed interval tests. No condition. -/
namespace Go.Proofs.Ytngjaajcdbodeaa.Pure
open Go.RowKit Go.Proofs.Ytngjaajcdbodeaa.All Go.Proofs.YtngjaajcdbodeaaW.PrintWords Go.Proofs.YtngjaajcdbodeaaW.PrintLast
set_option linter.unusedVariables false

theorem spec_l1In_f (a b c : Int) : spec_l1In.f a b c = some (decide (b ≤ a ∧ a ≤ c)) := by
  unfold spec_l1In.f
  split <;> simp_all
  omega
theorem impl_in_f (a b c : Int) : impl_in.f a b c = some (decide (b ≤ a ∧ a ≤ c)) := by
  unfold impl_in.f
  split <;> simp_all
  omega

end Go.Proofs.Ytngjaajcdbodeaa.Pure

/- Plain laws of the printed tests of boxes. No condition. -/
namespace Go.Proofs.Ytngjaajcdbodeaa.Pure
open Go.RowKit Go.Proofs.Ytngjaajcdbodeaa.All Go.Proofs.YtngjaajcdbodeaaW.PrintWords Go.Proofs.YtngjaajcdbodeaaW.PrintLast
set_option linter.unusedVariables false

def bok (a b c d : Int) : Bool := decide (0 ≤ a ∧ a ≤ c ∧ c ≤ 255 ∧ 0 ≤ b ∧ b ≤ d ∧ d ≤ 255)

theorem spec_BoxOk_f (a b c d : Int) : spec_BoxOk.f a b c d = some (bok a b c d) := by
  unfold spec_BoxOk.f bok
  simp only [spec_l1In_f, Option.bind_some]
  by_cases h0 : 0 ≤ a ∧ a ≤ 255
  · by_cases h1 : 0 ≤ b ∧ b ≤ 255
    · by_cases h2 : a ≤ c ∧ c ≤ 255
      · simp only [h0, h1, h2, and_self, decide_true, if_true]
        congr 1
        simp
      · simp only [h0, h1, h2, and_self, decide_true, decide_false, if_true]
        simp
        omega
    · simp only [h0, h1, and_self, decide_true, decide_false, if_true]
      simp
      omega
  · simp only [h0, decide_false]
    simp
    omega
theorem impl_BoxOk_f (a b c d : Int) : impl_BoxOk.f a b c d = some (bok a b c d) := by
  unfold impl_BoxOk.f bok
  simp only [impl_in_f, Option.bind_some]
  by_cases h0 : 0 ≤ a ∧ a ≤ c
  · by_cases h1 : 0 ≤ c ∧ c ≤ 255
    · by_cases h2 : 0 ≤ b ∧ b ≤ d
      · simp only [h0, h1, h2, and_self, decide_true, if_true]
        congr 1
        simp
        omega
      · simp only [h0, h1, h2, and_self, decide_true, decide_false, if_true]
        simp
        omega
    · simp only [h0, h1, and_self, decide_true, decide_false, if_true]
      simp
      omega
  · simp only [h0, decide_false]
    simp
    omega

end Go.Proofs.Ytngjaajcdbodeaa.Pure

/- Plain law of the printed NodeOk, the program's and the reference's. No condition. -/
namespace Go.Proofs.Ytngjaajcdbodeaa.Pure
open Go.RowKit Go.Proofs.Ytngjaajcdbodeaa.All Go.Proofs.YtngjaajcdbodeaaW.PrintWords Go.Proofs.YtngjaajcdbodeaaW.PrintLast
set_option linter.unusedVariables false

/-- The place of the first entry of a number, from x on. -/
def idxE (es : List En) (n : Int) : Nat → Nat → Int
  | 0, _ => -1
  | d + 1, x => if (es.getD x z103).f0 = n then (x : Int) else idxE es n d (x + 1)
theorem entryAt_both (es : List En) (n : Int) (hl : es.length ≤ 1048576) : ∀ d x : Nat, x + d = es.length → Evn (fun k => spec_EntryAt.l0 k es n (x : Int)) (idxE es n d x) ∧ Evn (fun k => impl_EntryAt.l0 k es n (x : Int)) (idxE es n d x)
  | 0, x, hx => ⟨Evn.step (fun k => by rw [spec_EntryAt.l0, if_neg (by omega)]; rfl) (Evn.ret _), Evn.step (fun k => by rw [impl_EntryAt.l0, if_neg (by omega)]; rfl) (Evn.ret _)⟩
  | d + 1, x, hx => by
    have hw : wrap64 ((x : Int) + 1) = ((x + 1 : Nat) : Int) := by
      unfold wrap64
      omega
    have ih := entryAt_both es n hl d (x + 1) (by omega)
    rw [idxE]
    by_cases h : (es.getD x z103).f0 = n
    · rw [if_pos h]
      exact ⟨Evn.step (fun k => by rw [spec_EntryAt.l0, if_pos (by omega), if_pos (by omega), rdE_at, if_pos h]) (Evn.ret _), Evn.step (fun k => by rw [impl_EntryAt.l0, if_pos (by omega), if_pos (by omega), rdE_at, if_pos h]) (Evn.ret _)⟩
    · rw [if_neg h]
      exact ⟨Evn.step (fun k => by rw [spec_EntryAt.l0, if_pos (by omega), if_pos (by omega), rdE_at, if_neg h, hw]) ih.1, Evn.step (fun k => by rw [impl_EntryAt.l0, if_pos (by omega), if_pos (by omega), rdE_at, if_neg h, hw]) ih.2⟩
def entryAt (es : List En) (n : Int) : Int := idxE es n es.length 0
theorem spec_EntryAt_f (es : List En) (n : Int) (hl : es.length ≤ 1048576) : Evn (fun k => spec_EntryAt.f k es n) (entryAt es n) := (entryAt_both es n hl es.length 0 (by omega)).1
theorem impl_EntryAt_f (es : List En) (n : Int) (hl : es.length ≤ 1048576) : Evn (fun k => impl_EntryAt.f k es n) (entryAt es n) := (entryAt_both es n hl es.length 0 (by omega)).2
def numOk (lf : Bool) (n : Int) : Bool := if lf = true then decide (1 ≤ n ∧ n ≤ 999) else decide (0 ≤ n ∧ n ≤ 47)
/-- Entry x of a node is right. -/
def entOk (lf : Bool) (es : List En) (x : Nat) : Bool := bok (es.getD x z103).f1.f0 (es.getD x z103).f1.f1 (es.getD x z103).f1.f2 (es.getD x z103).f1.f3 && (decide (entryAt es (es.getD x z103).f0 = x) && numOk lf (es.getD x z103).f0)
def entsOk (lf : Bool) (es : List En) : Nat → Nat → Bool
  | 0, _ => true
  | d + 1, x => entOk lf es x && entsOk lf es d (x + 1)
def sizeOk (lf : Bool) (es : List En) : Bool := decide (es.length ≤ 4) && (lf || decide (0 < es.length))
def nodeOk (lf : Bool) (es : List En) : Bool := entsOk lf es es.length 0 && sizeOk lf es
theorem spec_node (lf : Bool) (es : List En) (hl : es.length ≤ 1048576) : ∀ d x : Nat, x + d = es.length → Evn (fun k => spec_NodeOk.l0 k (x : Int) lf es) (entsOk lf es d x && sizeOk lf es)
  | 0, x, hx => by
    refine Evn.step (fun k => ?_) (Evn.ret _)
    rw [spec_NodeOk.l0, if_neg (by omega), entsOk, Bool.true_and]
    unfold sizeOk
    by_cases h : es.length ≤ 4
    · rw [if_pos (by omega), decide_eq_true h, Bool.true_and]
      cases lf with
      | true => rfl
      | false =>
        rw [if_neg (by decide), Bool.false_or]
        congr 1
        rw [decide_eq_decide]
        omega
    · rw [if_neg (by omega), decide_eq_false h, Bool.false_and]
  | d + 1, x, hx => by
    have ih := spec_node lf es hl d (x + 1) (by omega)
    have hw : wrap64 ((x : Int) + 1) = ((x + 1 : Nat) : Int) := by
      unfold wrap64
      omega
    refine Evn.step (fun k => by rw [spec_NodeOk.l0, if_pos (by omega), if_pos (by omega), rdE_at, spec_BoxOk_f, hw]) ?_
    rw [entsOk]
    unfold entOk
    generalize (es.getD x z103) = e
    refine Evn.bind (Evn.ret _) ?_
    cases bok e.f1.f0 e.f1.f1 e.f1.f2 e.f1.f3 with
    | false => exact Evn.neg (by decide) (Evn.ret _)
    | true =>
      refine Evn.pos rfl (Evn.bind (spec_EntryAt_f es e.f0 hl) ?_)
      by_cases h2 : entryAt es e.f0 = x
      · refine Evn.pos h2 ?_
        rw [decide_eq_true h2]
        simp only [Bool.true_and]
        unfold numOk
        cases lf with
        | true =>
          refine Evn.pos rfl ?_
          rw [if_pos rfl]
          refine Evn.bind (Evn.const fun _ => spec_l1In_f _ _ _) ?_
          by_cases h3 : 1 ≤ e.f0 ∧ e.f0 ≤ 999
          · rw [decide_eq_true h3, Bool.true_and]
            exact Evn.pos rfl ih
          · rw [decide_eq_false h3, Bool.false_and]
            exact Evn.neg (by decide) (Evn.ret _)
        | false =>
          refine Evn.neg (by decide) ?_
          rw [if_neg (by decide)]
          refine Evn.bind (Evn.const fun _ => spec_l1In_f _ _ _) ?_
          by_cases h3 : 0 ≤ e.f0 ∧ e.f0 ≤ 47
          · rw [decide_eq_true h3, Bool.true_and]
            exact Evn.pos rfl ih
          · rw [decide_eq_false h3, Bool.false_and]
            exact Evn.neg (by decide) (Evn.ret _)
      · rw [decide_eq_false h2]
        exact Evn.neg h2 (Evn.ret _)
theorem impl_node (lf : Bool) (es : List En) (hl : es.length ≤ 1048576) : ∀ d x : Nat, x + d = es.length → Evn (fun k => impl_NodeOk.l0 k es (es.length : Int) (x : Int) lf es) (entsOk lf es d x)
  | 0, x, hx => Evn.step (fun k => by rw [impl_NodeOk.l0, if_neg (by omega), entsOk]) (Evn.ret _)
  | d + 1, x, hx => by
    have ih := impl_node lf es hl d (x + 1) (by omega)
    have hw : wrap64 ((x : Int) + 1) = ((x + 1 : Nat) : Int) := by
      unfold wrap64
      omega
    refine Evn.step (fun k => by rw [impl_NodeOk.l0, if_pos (by omega), if_pos (by omega), if_pos (by omega), rdE_at, impl_BoxOk_f, hw]) ?_
    rw [entsOk]
    unfold entOk numOk
    generalize (es.getD x z103) = e
    cases lf with
    | true =>
      refine Evn.pos rfl (Evn.bind (Evn.const fun _ => impl_in_f _ _ _) ?_)
      rw [if_pos rfl]
      by_cases h3 : 1 ≤ e.f0 ∧ e.f0 ≤ 999
      · rw [decide_eq_true h3, Bool.and_true]
        refine Evn.pos rfl (Evn.bind (Evn.ret _) ?_)
        cases bok e.f1.f0 e.f1.f1 e.f1.f2 e.f1.f3 with
        | false => exact Evn.neg (by decide) (Evn.ret _)
        | true =>
          refine Evn.pos rfl (Evn.bind (impl_EntryAt_f es e.f0 hl) ?_)
          by_cases h2 : entryAt es e.f0 = x
          · rw [decide_eq_true h2]
            exact Evn.pos h2 ih
          · rw [decide_eq_false h2]
            exact Evn.neg h2 (Evn.ret _)
      · rw [decide_eq_false h3, Bool.and_false, Bool.and_false, Bool.false_and]
        exact Evn.neg (by decide) (Evn.ret _)
    | false =>
      refine Evn.neg (by decide) (Evn.bind (Evn.const fun _ => impl_in_f _ _ _) ?_)
      rw [if_neg (by decide)]
      by_cases h3 : 0 ≤ e.f0 ∧ e.f0 ≤ 47
      · rw [decide_eq_true h3, Bool.and_true]
        refine Evn.pos rfl (Evn.bind (Evn.ret _) ?_)
        cases bok e.f1.f0 e.f1.f1 e.f1.f2 e.f1.f3 with
        | false => exact Evn.neg (by decide) (Evn.ret _)
        | true =>
          refine Evn.pos rfl (Evn.bind (impl_EntryAt_f es e.f0 hl) ?_)
          by_cases h2 : entryAt es e.f0 = x
          · rw [decide_eq_true h2]
            exact Evn.pos h2 ih
          · rw [decide_eq_false h2]
            exact Evn.neg h2 (Evn.ret _)
      · rw [decide_eq_false h3, Bool.and_false, Bool.and_false, Bool.false_and]
        exact Evn.neg (by decide) (Evn.ret _)
theorem spec_NodeOk_f (lf : Bool) (es : List En) (hl : es.length ≤ 1048576) : Evn (fun k => spec_NodeOk.f k lf es) (nodeOk lf es) := spec_node lf es hl es.length 0 (by omega)
theorem impl_NodeOk_f (lf : Bool) (es : List En) (hl : es.length ≤ 1048576) : Evn (fun k => impl_NodeOk.f k lf es) (nodeOk lf es) := by
  have h := impl_node lf es hl es.length 0 (by omega)
  unfold impl_NodeOk.f nodeOk sizeOk
  have hf : ∀ b : Bool, Evn (fun k => impl_NodeOk.j0 k true lf es) false := fun b => Evn.step (fun k => by rw [impl_NodeOk.j0, if_pos rfl]) (Evn.ret _)
  have ht : Evn (fun k => impl_NodeOk.j0 k false lf es) (entsOk lf es es.length 0) := Evn.step (fun k => by rw [impl_NodeOk.j0, if_neg (by decide)]; rfl) h
  by_cases h4 : es.length ≤ 4
  · refine Evn.neg (by omega) ?_
    rw [decide_eq_true h4, Bool.true_and]
    cases lf with
    | true =>
      rw [Bool.true_or, Bool.and_true]
      exact Evn.pos rfl ht
    | false =>
      refine Evn.neg (by decide) ?_
      rw [Bool.false_or]
      by_cases h0 : 0 < es.length
      · rw [decide_eq_true h0, Bool.and_true, show ((es.length : Int) == 0) = false by rw [beq_eq_false_iff_ne]; omega]
        exact ht
      · rw [decide_eq_false h0, Bool.and_false, show ((es.length : Int) == 0) = true by rw [beq_iff_eq]; omega]
        exact hf true
  · rw [decide_eq_false h4, Bool.false_and, Bool.and_false]
    exact Evn.pos (by omega) (hf true)

end Go.Proofs.Ytngjaajcdbodeaa.Pure

/- Plain law of BookOk, the program's and the reference's: both say that the pages are right and that what is reached is a tree. No condition. -/
namespace Go.Proofs.Ytngjaajcdbodeaa.Pure
open Go.RowKit Go.Proofs.Ytngjaajcdbodeaa.All Go.Proofs.YtngjaajcdbodeaaW.PrintWords Go.Proofs.YtngjaajcdbodeaaW.PrintLast
set_option linter.unusedVariables false

theorem Evn.of_mono {α : Type} {g : Nat → Option α} {r : α} (hm : ∀ k, LeO (g k) (g (k + 1))) (k : Nat) (h : g k = some r) : Evn g r := by
  refine ⟨k, fun n hn => ?_⟩
  obtain ⟨d, rfl⟩ := Nat.exists_eq_add_of_le hn
  induction d with
  | zero => exact h
  | succ d ih => exact hm _ r (ih (by omega))
theorem has_evn (l : List Int) (n : Int) (hl : l.length ≤ 4611686018427387904) : Evn (fun k => spec_l7Has.f k l n) (decide (n ∈ l)) := by
  obtain ⟨k, hk⟩ := has_f l n hl
  exact Evn.of_mono (fun k => spec_l7Has.mono l n k) k hk
def pageOk (p : Pg) : Bool := if p.f0 = true then nodeOk p.f1.f0 p.f1.f1 else (!p.f1.f0 && decide (p.f1.f1.length = 0))
theorem wrapI {i : Nat} (h : i ≤ 4611686018427387904) : wrap64 ((i : Int) + 1) = ((i + 1 : Nat) : Int) := by
  unfold wrap64
  omega
theorem same_empty (b : Bool) (es : List En) : Evn (fun k => impl_SameNode.f k b es false []) (!b && decide (es.length = 0)) := by
  unfold impl_SameNode.f
  cases b with
  | true => exact Evn.neg (by decide) (Evn.ret _)
  | false =>
    refine Evn.pos (by decide) (Evn.bind (a := decide (es.length = 0)) ?_ (Evn.ret _))
    unfold slices_Equal_Entry.f
    by_cases h : es.length = 0
    · rw [decide_eq_true h]
      refine Evn.pos (by rw [h]; rfl) (Evn.step (fun k => ?_) (Evn.ret _))
      rw [slices_Equal_Entry.l0, if_neg (by omega)]
    · rw [decide_eq_false h]
      exact Evn.neg (by simp only [List.length_nil]; omega) (Evn.ret _)
theorem bokP_f (l : List Pg) (hl : l.length ≤ 1048576) (hp : ∀ p ∈ l, p.f1.f1.length ≤ 1048576) : ∀ d x : Nat, x + d = l.length → Evn (fun k => bokP k l (x : Int)) ((l.drop x).all pageOk)
  | 0, x, hx => by
    rw [List.drop_eq_nil_of_le (by omega)]
    exact Evn.step (fun k => by rw [bokP, if_neg (by omega)]; rfl) (Evn.ret _)
  | d + 1, x, hx => by
    have ih := bokP_f l hl hp d (x + 1) (by omega)
    have hxl : x < l.length := by omega
    have hw : wrap64 ((x : Int) + 1) = ((x + 1 : Nat) : Int) := wrapI (by omega)
    rw [List.drop_eq_getElem_cons hxl, List.all_cons]
    have hlen := hp _ (List.getElem_mem hxl)
    refine Evn.step (fun k => by rw [bokP, if_pos (by omega), if_pos (by omega), rdPg_at l x hxl, hw]) ?_
    generalize l[x] = p at hlen
    unfold pageOk
    by_cases hu : p.f0 = true
    · refine Evn.pos hu (Evn.bind (impl_NodeOk_f _ _ hlen) ?_)
      rw [if_pos hu]
      cases nodeOk p.f1.f0 p.f1.f1 with
      | true => exact Evn.pos rfl ih
      | false => exact Evn.neg (by decide) (Evn.ret _)
    · refine Evn.neg hu (Evn.bind (same_empty _ _) ?_)
      rw [if_neg hu]
      cases (!p.f1.f0 && decide (p.f1.f1.length = 0)) with
      | true => exact Evn.pos rfl ih
      | false => exact Evn.neg (by decide) (Evn.ret _)
theorem spec_pages (a : Int) (l : List Pg) (r : List Int) (b : Bool) (hl : l.length ≤ 1048576) (hp : ∀ p ∈ l, p.f1.f1.length ≤ 1048576) (hend : Evn (fun k => spec_BookOk.l1 k r 0 0 a l) b) : ∀ d x : Nat, x + d = l.length → Evn (fun k => spec_BookOk.l0 k r (x : Int) a l) ((l.drop x).all pageOk && b)
  | 0, x, hx => by
    rw [List.drop_eq_nil_of_le (by omega)]
    exact Evn.step (fun k => by rw [spec_BookOk.l0, if_neg (by omega)]) hend
  | d + 1, x, hx => by
    have ih := spec_pages a l r b hl hp hend d (x + 1) (by omega)
    have hxl : x < l.length := by omega
    have hw : wrap64 ((x : Int) + 1) = ((x + 1 : Nat) : Int) := wrapI (by omega)
    rw [List.drop_eq_getElem_cons hxl, List.all_cons, Bool.and_assoc]
    have hlen := hp _ (List.getElem_mem hxl)
    refine Evn.step (fun k => by rw [spec_BookOk.l0, if_pos (by omega), if_pos (by omega), rdPg_at l x hxl, hw]) ?_
    generalize l[x] = p at hlen
    unfold pageOk
    by_cases hu : p.f0 = true
    · refine Evn.pos hu (Evn.bind (spec_NodeOk_f _ _ hlen) ?_)
      rw [if_pos hu]
      cases nodeOk p.f1.f0 p.f1.f1 with
      | true => exact Evn.pos rfl (Evn.pos hu ih)
      | false => exact Evn.neg (by decide) (Evn.ret _)
    · refine Evn.neg hu (Evn.neg hu ?_)
      rw [if_neg hu]
      by_cases hb : p.f1.f0 = true
      · rw [hb]
        exact Evn.pos rfl (Evn.ret _)
      · refine Evn.neg hb ?_
        rw [Bool.not_eq_true] at hb
        rw [hb]
        by_cases h0 : p.f1.f1.length = 0
        · rw [decide_eq_true h0]
          exact Evn.neg (by omega) ih
        · rw [decide_eq_false h0]
          exact Evn.pos (by omega) (Evn.ret _)
/-- Those that are told, behind told. -/
def tellE (ps : List Pg) (told : List Int) : List Int → Option (List Int)
  | [] => some told
  | c :: t => if pgOk ps c ∧ ¬ c ∈ told then tellE ps (told ++ [c]) t else none
def tellR (ps : List Pg) : List Int → List Int → Bool
  | _, [] => true
  | told, i :: t => match tellE ps told (kids ps i) with | none => false | some told' => tellR ps told' t
theorem tellE_once (ps : List Pg) : ∀ F told t, Once ps told → tellE ps told F = some t → Once ps t
  | [], told, t, ho, h => by
    rw [tellE] at h
    injection h with h
    exact h ▸ ho
  | c :: F, told, t, ho, h => by
    rw [tellE] at h
    by_cases hc : pgOk ps c ∧ ¬ c ∈ told
    · rw [if_pos hc] at h
      exact tellE_once ps F _ t (ho.snoc hc.1 hc.2) h
    · rw [if_neg hc] at h
      cases h
theorem bokE_f (ps : List Pg) (hl : ps.length ≤ 1048576) (es : List En) (he : es.length ≤ 1048576) : ∀ d y : Nat, y + d = es.length → ∀ told, Once ps told → Evn (fun k => bokE k ps es told (y : Int)) (tellE ps told ((es.drop y).map (fun e => e.f0)))
  | 0, y, hy, told, ho => by
    rw [List.drop_eq_nil_of_le (by omega)]
    exact Evn.step (fun k => by rw [bokE, if_neg (by omega)]; rfl) (Evn.ret _)
  | d + 1, y, hy, told, ho => by
    have hyl : y < es.length := by omega
    have hw : wrap64 ((y : Int) + 1) = ((y + 1 : Nat) : Int) := wrapI (by omega)
    have hlen := ho.len
    have hrd : rd_T103 es (y : Int) = es[y] := by
      show es.getD y z103 = _
      rw [List.getD_eq_getElem?_getD, List.getElem?_eq_getElem hyl]
      rfl
    rw [List.drop_eq_getElem_cons hyl, List.map_cons, tellE]
    refine Evn.step (fun k => by rw [bokE, if_pos (by omega), if_pos (by omega), if_pos (by omega), hrd, hw]) ?_
    by_cases hc : pgOk ps (es[y]).f0
    · refine Evn.pos hc ?_
      by_cases hm : (es[y]).f0 ∈ told
      · rw [if_neg (fun h => h.2 hm)]
        exact Evn.pos hm (Evn.ret _)
      · rw [if_pos ⟨hc, hm⟩]
        exact Evn.neg hm (bokE_f ps hl es he d (y + 1) (by omega) _ (ho.snoc hc hm))
    · rw [if_neg (fun h => hc h.1)]
      exact Evn.neg hc (Evn.ret _)
theorem bokR_f (ps : List Pg) (hl : ps.length ≤ 1048576) (hp : ∀ p ∈ ps, p.f1.f1.length ≤ 1048576) (r : List Int) (hr : ∀ i ∈ r, pgOk ps i) (hrl : r.length ≤ 1048576) : ∀ d x : Nat, x + d = r.length → ∀ told, Once ps told → Evn (fun k => bokR k ps r told (x : Int)) (tellR ps told (r.drop x))
  | 0, x, hx, told, ho => by
    rw [List.drop_eq_nil_of_le (by omega)]
    exact Evn.step (fun k => by rw [bokR, if_neg (by omega)]; rfl) (Evn.ret _)
  | d + 1, x, hx, told, ho => by
    have hxl : x < r.length := by omega
    have hw : wrap64 ((x : Int) + 1) = ((x + 1 : Nat) : Int) := wrapI (by omega)
    have hg := hr _ (List.getElem_mem hxl)
    have hrd : rd r (x : Int) = r[x] := by
      show r.getD x 0 = _
      rw [List.getD_eq_getElem?_getD, List.getElem?_eq_getElem hxl]
      rfl
    have ih := bokR_f ps hl hp r hr hrl d (x + 1) (by omega)
    rw [List.drop_eq_getElem_cons hxl, tellR]
    refine Evn.step (fun k => by rw [bokR, if_pos (by omega), if_pos (by omega), hrd, if_pos hg.1, if_pos hg.2.1, hw]) ?_
    generalize r[x] = i at hg
    unfold kids
    by_cases hb : (rd_T90 ps i).f1.f0 = true
    · rw [if_pos hb]
      exact Evn.pos hb (ih told ho)
    · rw [if_neg hb]
      have hes : (rd_T90 ps i).f1.f1.length ≤ 1048576 := by
        obtain ⟨m, rfl⟩ : ∃ m : Nat, i = (m : Int) := ⟨i.toNat, by have := hg.1; omega⟩
        have hm : m < ps.length := by have := hg.2.1; omega
        rw [rdPg_at ps m hm]
        exact hp _ (List.getElem_mem hm)
      have hE := bokE_f ps hl _ hes _ 0 (Nat.zero_add _) told ho
      rw [List.drop_zero] at hE
      refine Evn.neg hb (Evn.bind hE ?_)
      cases ht : tellE ps told ((rd_T90 ps i).f1.f1.map (fun e => e.f0)) with
      | none => exact Evn.ret _
      | some t => exact ih t (tellE_once ps _ told t ho ht)
theorem tellE_some (ps : List Pg) : ∀ F told, told.Nodup → (∀ t, tellE ps told F = some t → t = told ++ F ∧ (∀ c ∈ F, pgOk ps c) ∧ (told ++ F).Nodup) ∧ ((∀ c ∈ F, pgOk ps c) → (told ++ F).Nodup → tellE ps told F = some (told ++ F))
  | [], told, hn => by
    refine ⟨fun t h => ?_, fun _ _ => by rw [tellE, List.append_nil]⟩
    rw [tellE] at h
    injection h with h
    subst h
    simp [hn]
  | c :: F, told, hn => by
    have e : told ++ c :: F = (told ++ [c]) ++ F := by simp
    constructor
    · intro t h
      rw [tellE] at h
      by_cases hc : pgOk ps c ∧ ¬ c ∈ told
      · rw [if_pos hc] at h
        have hn2 : (told ++ [c]).Nodup := by
          rw [List.nodup_append]
          refine ⟨hn, by simp, fun a ha b hb hab => ?_⟩
          rw [List.mem_singleton] at hb
          subst hb
          subst hab
          exact hc.2 ha
        obtain ⟨h1, h2, h3⟩ := (tellE_some ps F (told ++ [c]) hn2).1 t h
        rw [e]
        refine ⟨h1, fun q hq => ?_, h3⟩
        rcases List.mem_cons.1 hq with hq | hq
        · exact hq ▸ hc.1
        · exact h2 q hq
      · rw [if_neg hc] at h
        cases h
    · intro h1 h2
      have hcn : ¬ c ∈ told := by
        intro hin
        rw [List.nodup_append] at h2
        exact h2.2.2 c hin c (List.mem_cons_self ..) rfl
      rw [tellE, if_pos ⟨h1 c (List.mem_cons_self ..), hcn⟩, e]
      rw [e] at h2
      exact (tellE_some ps F (told ++ [c]) (by rw [List.nodup_append] at h2; exact h2.1)).2 (fun q hq => h1 q (List.mem_cons_of_mem _ hq)) h2
theorem tellR_iff (ps : List Pg) : ∀ r told, told.Nodup → (tellR ps told r = true ↔ (∀ c ∈ r.flatMap (kids ps), pgOk ps c) ∧ (told ++ r.flatMap (kids ps)).Nodup)
  | [], told, hn => by simp [tellR, hn]
  | i :: r, told, hn => by
    obtain ⟨h1, h2⟩ := tellE_some ps (kids ps i) told hn
    rw [tellR, List.flatMap_cons]
    constructor
    · intro h
      cases ht : tellE ps told (kids ps i) with
      | none =>
        rw [ht] at h
        cases h
      | some t =>
        rw [ht] at h
        obtain ⟨rfl, h4, h5⟩ := h1 t ht
        have h6 := (tellR_iff ps r _ h5).1 h
        refine ⟨fun c hc => ?_, by rw [← List.append_assoc]; exact h6.2⟩
        rcases List.mem_append.1 hc with hc | hc
        · exact h4 c hc
        · exact h6.1 c hc
    · rintro ⟨h3, h4⟩
      rw [← List.append_assoc] at h4
      have h5 : (told ++ kids ps i).Nodup := by
        rw [List.nodup_append] at h4
        exact h4.1
      rw [h2 (fun c hc => h3 c (List.mem_append_left _ hc)) h5]
      exact (tellR_iff ps r _ h5).2 ⟨fun c hc => h3 c (List.mem_append_right _ hc), h4⟩
/-- The entries are all reached, none is the root, and with those that were counted they are one less than the pages. -/
def edgeB (r : List Int) (a : Int) (F : List Int) (e : Nat) : Bool := (F.all fun c => decide (c ∈ r) && decide (c ≠ a)) && decide (e + F.length + 1 = r.length)
theorem edgeB_out {r : List Int} {a c : Int} {F : List Int} {e : Nat} (h : ¬ c ∈ r) : edgeB r a (c :: F) e = false := by
  unfold edgeB
  rw [List.all_cons, decide_eq_false h]
  rfl
theorem edgeB_root {r : List Int} {a c : Int} {F : List Int} {e : Nat} (h : c = a) : edgeB r a (c :: F) e = false := by
  unfold edgeB
  rw [List.all_cons, decide_eq_false (fun hn : c ≠ a => hn h), Bool.and_false]
  rfl
theorem edgeB_next {r : List Int} {a c : Int} {F : List Int} {e : Nat} (h1 : c ∈ r) (h2 : ¬ c = a) : edgeB r a (c :: F) e = edgeB r a F (e + 1) := by
  unfold edgeB
  rw [List.all_cons, decide_eq_true h1, decide_eq_true (show c ≠ a from h2), Bool.and_self, Bool.true_and, List.length_cons]
  congr 1
  rw [decide_eq_decide]
  omega
theorem edgeB_iff {r : List Int} {a : Int} {F : List Int} {e : Nat} : edgeB r a F e = true ↔ (∀ c ∈ F, c ∈ r ∧ c ≠ a) ∧ e + F.length + 1 = r.length := by
  unfold edgeB
  rw [Bool.and_eq_true, List.all_eq_true, decide_eq_true_iff]
  constructor
  · rintro ⟨h1, h2⟩
    refine ⟨fun c hc => ?_, h2⟩
    have := h1 c hc
    rw [Bool.and_eq_true, decide_eq_true_iff, decide_eq_true_iff] at this
    exact this
  · rintro ⟨h1, h2⟩
    refine ⟨fun c hc => ?_, h2⟩
    rw [Bool.and_eq_true, decide_eq_true_iff, decide_eq_true_iff]
    exact h1 c hc
/-- The reference's count of the entries, from page x of those that are reached on. -/
theorem small_e {e2 B y M M2 n : Nat} (h2 : e2 ≤ B + y) (hxb : B ≤ M2) (hM : M2 + M + M ≤ 4611686018427387904) (hy : y < n) (hes : n ≤ M) : e2 ≤ 4611686018427387904 := by omega
theorem small_y {y M M2 n : Nat} (hM : M2 + M + M ≤ 4611686018427387904) (hy : y < n) (hes : n ≤ M) : y ≤ 4611686018427387904 := by omega
theorem spec_edges (M : Nat) (hM : M * M + M + M ≤ 4611686018427387904) (a : Int) (l : List Pg) (r : List Int) (hp : ∀ p ∈ l, p.f1.f1.length ≤ M) (hr : ∀ i ∈ r, pgOk l i) (hrl : r.length ≤ M) :
    ∀ d x : Nat, x + d = r.length → ∀ e : Nat, e ≤ x * M → Evn (fun k => spec_BookOk.l1 k r (e : Int) (x : Int) a l) (edgeB r a ((r.drop x).flatMap (kids l)) e)
  | 0, x, hx, e, hE => by
    rw [List.drop_eq_nil_of_le (by omega)]
    refine Evn.step (fun k => ?_) (Evn.ret _)
    rw [spec_BookOk.l1, if_neg (by omega), show wrap64 ((r.length : Int) - 1) = (r.length : Int) - 1 by unfold wrap64; omega]
    congr 1
    unfold edgeB
    rw [List.flatMap_nil, List.all_nil, Bool.true_and, Bool.eq_iff_iff, beq_iff_eq, decide_eq_true_iff, List.length_nil]
    omega
  | d + 1, x, hx, e, hE => by
    have hxl : x < r.length := by omega
    have hw : wrap64 ((x : Int) + 1) = ((x + 1 : Nat) : Int) := wrapI (by omega)
    have hg := hr _ (List.getElem_mem hxl)
    have hrd : rd r (x : Int) = r[x] := by
      show r.getD x 0 = _
      rw [List.getD_eq_getElem?_getD, List.getElem?_eq_getElem hxl]
      rfl
    have ih0 := spec_edges M hM a l r hp hr hrl d (x + 1) (by omega)
    have ih : ∀ e : Nat, e ≤ x * M + M → Evn (fun k => spec_BookOk.l1 k r (e : Int) ((x + 1 : Nat) : Int) a l) (edgeB r a ((r.drop (x + 1)).flatMap (kids l)) e) := fun e he => ih0 e (Nat.le_trans he (Nat.le_of_eq (Nat.succ_mul x M).symm))
    clear ih0
    rw [List.drop_eq_getElem_cons hxl, List.flatMap_cons]
    refine Evn.step (fun k => by rw [spec_BookOk.l1, if_pos (by omega), if_pos (by omega), hrd, if_pos hg.1, if_pos hg.2.1]) ?_
    generalize r[x] = i at hg
    have hes : (rd_T90 l i).f1.f1.length ≤ M := by
      obtain ⟨m, rfl⟩ : ∃ m : Nat, i = (m : Int) := ⟨i.toNat, by have := hg.1; omega⟩
      have hm : m < l.length := by have := hg.2.1; omega
      rw [rdPg_at l m hm]
      exact hp _ (List.getElem_mem hm)
    generalize (r.drop (x + 1)).flatMap (kids l) = F at ih
    have hxb : x * M ≤ M * M := Nat.mul_le_mul_right M (show x ≤ M by omega)
    generalize x * M = B at hE ih hxb
    generalize M * M = M2 at hxb hM
    unfold kids
    generalize (rd_T90 l i).f1.f1 = es at hes
    generalize (rd_T90 l i).f1.f0 = b
    cases b with
    | true =>
      rw [if_pos rfl, List.nil_append]
      have h1 : Evn (fun k => spec_BookOk.j4 k r (e : Int) (x : Int) 0 false a l true es) (edgeB r a F e) := Evn.step (fun k => by rw [spec_BookOk.j4, if_neg (by decide), hw]) (ih e (by omega))
      by_cases h0 : (0 : Int) < (es.length : Int)
      · exact Evn.step (fun k => by rw [spec_BookOk.l2, if_pos h0]; rfl) h1
      · exact Evn.step (fun k => by rw [spec_BookOk.l2, if_neg h0]) h1
    | false =>
      rw [if_neg (by decide)]
      have key : ∀ d y : Nat, y + d = es.length → ∀ e2 : Nat, e2 ≤ B + y → Evn (fun k => spec_BookOk.l2 k r (e2 : Int) (x : Int) (y : Int) a l false es) (edgeB r a ((es.drop y).map (fun e => e.f0) ++ F) e2) := by
        intro d
        induction d with
        | zero =>
          intro y hy e2 h2
          rw [List.drop_eq_nil_of_le (by omega), List.map_nil, List.nil_append]
          exact Evn.step (fun k => by rw [spec_BookOk.l2, if_neg (by omega)]) (Evn.step (fun k => by rw [spec_BookOk.j4, if_neg (by decide), hw]) (ih e2 (by omega)))
        | succ d ihd =>
          intro y hy e2 h2
          have hyl : y < es.length := by omega
          have hrd : rd_T103 es (y : Int) = es[y] := by
            show es.getD y z103 = _
            rw [List.getD_eq_getElem?_getD, List.getElem?_eq_getElem hyl]
            rfl
          have ih2 := ihd (y + 1) (by omega) (e2 + 1) (by omega)
          have hw1 : wrap64 ((y : Int) + 1) = ((y + 1 : Nat) : Int) := wrapI (small_y hM hyl hes)
          have hw2 : wrap64 ((e2 : Int) + 1) = ((e2 + 1 : Nat) : Int) := wrapI (small_e h2 hxb hM hyl hes)
          have hy0 : (0 : Int) ≤ (y : Int) := Int.natCast_nonneg y
          have hy1 : (y : Int) < (es.length : Int) := Int.ofNat_lt.mpr hyl
          rw [List.drop_eq_getElem_cons hyl, List.map_cons, List.cons_append]
          refine Evn.step (fun k => by rw [spec_BookOk.l2, if_pos hy1]) (Evn.step (fun k => by rw [spec_BookOk.j4, if_pos (by decide), if_pos hy0, if_pos hy1, hrd, hw1, hw2]) ?_)
          refine Evn.bind (has_evn r _ (by omega)) ?_
          by_cases hm : (es[y]).f0 ∈ r
          · rw [decide_eq_true hm]
            refine Evn.pos rfl ?_
            by_cases ha : (es[y]).f0 = a
            · rw [edgeB_root ha]
              exact Evn.pos ha (Evn.ret _)
            · rw [edgeB_next hm ha]
              exact Evn.neg ha ih2
          · rw [decide_eq_false hm, edgeB_out hm]
            exact Evn.neg (by decide) (Evn.ret _)
      have h := key es.length 0 (by omega) e (by omega)
      rw [List.drop_zero] at h
      exact h
/-- A list that has all of another one, which names nothing twice, and is no longer, names nothing twice itself. -/
theorem nodup_cover : ∀ (F u : List Int), u.Nodup → (∀ x ∈ u, x ∈ F) → F.length ≤ u.length → F.Nodup
  | [], u, _, _, _ => List.nodup_nil
  | c :: F, u, hu, hs, hl => by
    have hc : ¬ c ∈ F := by
      intro hin
      have := nodup_sub u F hu (fun x hx => by
        rcases List.mem_cons.1 (hs x hx) with h | h
        · exact h ▸ hin
        · exact h)
      rw [List.length_cons] at hl
      omega
    rw [List.nodup_cons]
    refine ⟨hc, nodup_cover F (u.erase c) (hu.erase c) (fun x hx => ?_) ?_⟩
    · have hxu := List.mem_of_mem_erase hx
      rcases List.mem_cons.1 (hs x hxu) with h | h
      · exact absurd hx (h ▸ hu.not_mem_erase)
      · exact h
    · by_cases hcu : c ∈ u
      · rw [List.length_erase_of_mem hcu]
        rw [List.length_cons] at hl
        omega
      · rw [List.erase_of_not_mem hcu]
        rw [List.length_cons] at hl
        omega
theorem tree_iff {ps : List Pg} {root : Int} {r : List Int} (h : Reached ps root r) (hroot : pgOk ps root) : ((∀ c ∈ r.flatMap (kids ps), pgOk ps c) ∧ ([root] ++ r.flatMap (kids ps)).Nodup) ↔ ((∀ c ∈ r.flatMap (kids ps), c ∈ r ∧ c ≠ root) ∧ 0 + (r.flatMap (kids ps)).length + 1 = r.length) := by
  have hr := h.root_mem hroot
  have hlen : (r.erase root).length = r.length - 1 := List.length_erase_of_mem hr
  have hpos := List.length_pos_of_mem hr
  have hcov : ∀ x ∈ r.erase root, x ∈ r.flatMap (kids ps) := by
    intro x hx
    have hxr := List.mem_of_mem_erase hx
    have hne : x ≠ root := fun e => absurd hx (e ▸ h.once.1.not_mem_erase)
    obtain ⟨a, b, e⟩ := List.append_of_mem hxr
    rcases h.led a x b e with h1 | ⟨p, hp, hk⟩
    · exact absurd h1 hne
    · exact List.mem_flatMap.2 ⟨p, by rw [e]; exact List.mem_append_left _ hp, hk⟩
  constructor
  · rintro ⟨h1, h2⟩
    have hF : (r.flatMap (kids ps)).Nodup := by
      rw [List.nodup_append] at h2
      exact h2.2.1
    have hne : ∀ c ∈ r.flatMap (kids ps), c ≠ root := by
      intro c hc e
      rw [List.nodup_append] at h2
      exact h2.2.2 root (by simp) c hc e.symm
    have hin : ∀ c ∈ r.flatMap (kids ps), c ∈ r := by
      intro c hc
      obtain ⟨j, hj, hk⟩ := List.mem_flatMap.1 hc
      exact h.shut j hj c hk (h1 c hc)
    refine ⟨fun c hc => ⟨hin c hc, hne c hc⟩, ?_⟩
    have h3 := nodup_sub _ (r.erase root) hF (fun c hc => (List.mem_erase_of_ne (hne c hc)).2 (hin c hc))
    have h4 := nodup_sub _ (r.flatMap (kids ps)) (h.once.1.erase root) hcov
    omega
  · rintro ⟨h1, h2⟩
    have hF := nodup_cover (r.flatMap (kids ps)) (r.erase root) (h.once.1.erase root) hcov (by omega)
    refine ⟨fun c hc => h.once.2 c (h1 c hc).1, ?_⟩
    rw [List.nodup_append]
    refine ⟨by simp, hF, fun a ha b hb e => ?_⟩
    rw [List.mem_singleton] at ha
    subst ha
    exact (h1 b hb).2 e.symm
/-- A book is right: its pages are, and what is reached is a tree. -/
structure Right (l : List Pg) (a : Int) (r : List Int) : Prop where
  len : 1 ≤ l.length ∧ l.length ≤ 48
  root : pgOk l a
  pages : l.all pageOk = true
  tree : (∀ c ∈ r.flatMap (kids l), pgOk l c) ∧ ([a] ++ r.flatMap (kids l)).Nodup
instance (l : List Pg) (a : Int) (r : List Int) : Decidable (Right l a r) :=
  if h1 : 1 ≤ l.length ∧ l.length ≤ 48 then if h2 : pgOk l a then if h3 : l.all pageOk = true then if h4 : (∀ c ∈ r.flatMap (kids l), pgOk l c) ∧ ([a] ++ r.flatMap (kids l)).Nodup then isTrue ⟨h1, h2, h3, h4⟩ else isFalse fun h => h4 h.tree else isFalse fun h => h3 h.pages else isFalse fun h => h2 h.root else isFalse fun h => h1 h.len
theorem impl_bookOk (a : Int) (l : List Pg) (r : List Int) (hl : l.length ≤ 1048576) (hp : ∀ p ∈ l, p.f1.f1.length ≤ 1048576) (hw : Evn (fun k => walkM k l a []) r) (h : Reached l a r) : Evn (fun k => impl_BookOk.f k a l) (decide (Right l a r)) := by
  have hrl := h.once.len
  unfold impl_BookOk.f
  by_cases h1 : 1 ≤ l.length ∧ l.length ≤ 48
  · refine Evn.pos (by omega) ?_
    by_cases h2 : pgOk l a
    · refine Evn.pos h2 ?_
      have h3 := bokP_f l hl hp l.length 0 (by omega)
      rw [List.drop_zero] at h3
      refine Evn.bind h3 ?_
      by_cases h4 : l.all pageOk = true
      · rw [h4]
        refine Evn.pos rfl (Evn.bind (Evn.bind (a := r) hw (Evn.ret _)) ?_)
        have h5 := bokR_f l hl hp r h.once.2 (by omega) r.length 0 (by omega) [a] ((Once.nil l).snoc h2 List.not_mem_nil)
        rw [List.drop_zero] at h5
        have e : tellR l [a] r = decide (Right l a r) := by
          rw [Bool.eq_iff_iff, decide_eq_true_iff, tellR_iff l r [a] (by simp)]
          exact ⟨fun ht => ⟨h1, h2, h4, ht⟩, fun ht => ht.tree⟩
        rw [← e]
        exact h5
      · rw [decide_eq_false (fun ht : Right l a r => h4 ht.pages)]
        exact Evn.neg h4 (Evn.ret _)
    · rw [decide_eq_false (fun ht : Right l a r => h2 ht.root)]
      exact Evn.neg h2 (Evn.ret _)
  · rw [decide_eq_false (fun ht : Right l a r => h1 ht.len)]
    exact Evn.neg (by omega) (Evn.ret _)
theorem spec_bookOk (a : Int) (l : List Pg) (r : List Int) (hl : l.length ≤ 1048576) (hp : ∀ p ∈ l, p.f1.f1.length ≤ 1048576) (hw : Evn (fun k => walkM k l a []) r) (h : Reached l a r) : Evn (fun k => spec_BookOk.f k a l) (decide (Right l a r)) := by
  have hrl := h.once.len
  unfold spec_BookOk.f
  refine Evn.bind (a := r) hw (Evn.bind (Evn.const fun _ => spec_l1In_f _ _ _) ?_)
  by_cases h1 : 1 ≤ l.length ∧ l.length ≤ 48
  · rw [decide_eq_true (show 1 ≤ (l.length : Int) ∧ (l.length : Int) ≤ 48 by omega)]
    refine Evn.pos rfl ?_
    by_cases h2 : pgOk l a
    · have hpos := List.length_pos_of_mem (h.root_mem h2)
      rw [show ((r.length : Int) == 0) = false by rw [beq_eq_false_iff_ne]; omega]
      refine Evn.step (fun k => by rw [spec_BookOk.j0, if_neg (by decide)]) ?_
      have h3 := spec_edges 1048576 (by decide) a l r hp h.once.2 (by omega) r.length 0 (by omega) 0 (Nat.zero_le _)
      rw [List.drop_zero] at h3
      have h5 := spec_pages a l r _ hl hp h3 l.length 0 (by omega)
      rw [List.drop_zero] at h5
      have e : (l.all pageOk && edgeB r a (r.flatMap (kids l)) 0) = decide (Right l a r) := by
        rw [Bool.eq_iff_iff, Bool.and_eq_true, edgeB_iff, decide_eq_true_iff, ← tree_iff h h2]
        exact ⟨fun ht => ⟨h1, h2, ht.1, ht.2⟩, fun ht => ⟨ht.pages, ht.tree⟩⟩
      rw [← e]
      exact h5
    · rw [decide_eq_false (fun ht : Right l a r => h2 ht.root), h.none h2]
      exact Evn.step (fun k => by rw [spec_BookOk.j0]; rfl) (Evn.ret _)
  · rw [decide_eq_false (show ¬ (1 ≤ (l.length : Int) ∧ (l.length : Int) ≤ 48) by omega), decide_eq_false (fun ht : Right l a r => h1 ht.len)]
    exact Evn.neg (by decide) (Evn.step (fun k => by rw [spec_BookOk.j0, if_pos rfl]) (Evn.ret _))
theorem bookOk_both (a : Int) (l : List Pg) (hl : l.length ≤ 1048576) (hp : ∀ p ∈ l, p.f1.f1.length ≤ 1048576) : ∃ b : Bool, Evn (fun k => spec_BookOk.f k a l) b ∧ Evn (fun k => impl_BookOk.f k a l) b := by
  obtain ⟨r, hw, hr⟩ := reached l hl hp a
  exact ⟨_, spec_bookOk a l r hl hp hw hr, impl_bookOk a l r hl hp hw hr⟩

end Go.Proofs.Ytngjaajcdbodeaa.Pure

/- A right book is a tree: what is reached stands behind the page that names it, and each page names four at most. No condition. -/
namespace Go.Proofs.Ytngjaajcdbodeaa.Pure
open Go.RowKit Go.Proofs.Ytngjaajcdbodeaa.All Go.Proofs.YtngjaajcdbodeaaW.PrintWords Go.Proofs.YtngjaajcdbodeaaW.PrintLast
set_option linter.unusedVariables false

abbrev pgLeaf (l : List Pg) (i : Int) : Bool := (rd_T90 l i).f1.f0
abbrev pgL (l : List Pg) (i : Int) : List En := (rd_T90 l i).f1.f1
theorem pg_mem {l : List Pg} {i : Int} (h : pgOk l i) : rd_T90 l i ∈ l := by
  obtain ⟨m, rfl⟩ : ∃ m : Nat, i = (m : Int) := ⟨i.toNat, by have := h.1; omega⟩
  have hm : m < l.length := by have := h.2.1; omega
  rw [rdPg_at l m hm]
  exact List.getElem_mem hm
theorem Right.len4 {l : List Pg} {a : Int} {r : List Int} (h : Right l a r) {i : Int} (hi : pgOk l i) : (pgL l i).length ≤ 4 := by
  have h1 := List.all_eq_true.1 h.pages _ (pg_mem hi)
  unfold pageOk at h1
  rw [if_pos hi.2.2] at h1
  unfold nodeOk sizeOk at h1
  rw [Bool.and_eq_true, Bool.and_eq_true] at h1
  exact of_decide_eq_true h1.2.1
theorem kids_leaf {l : List Pg} {i : Int} (h : pgLeaf l i = true) : kids l i = [] := if_pos h
theorem kids_inner {l : List Pg} {i : Int} (h : pgLeaf l i = false) : kids l i = (pgL l i).map (fun e => e.f0) := if_neg (by rw [show (rd_T90 l i).f1.f0 = false from h]; decide)
theorem kids_len {l : List Pg} {i : Int} : (kids l i).length ≤ (pgL l i).length := by
  cases h : pgLeaf l i with
  | true => rw [kids_leaf h]; exact Nat.zero_le _
  | false => rw [kids_inner h, List.length_map]; exact Nat.le_refl _
theorem Right.kid {l : List Pg} {a : Int} {r : List Int} (h : Right l a r) (hr : Reached l a r) {i c : Int} (hi : i ∈ r) (hc : c ∈ kids l i) : c ∈ r :=
  hr.shut i hi c hc (h.tree.1 c (List.mem_flatMap.2 ⟨i, hi, hc⟩))
/-- Who names a page is told by the page. -/
theorem flat_once {α : Type} (f : α → List Int) : ∀ (r : List α), (r.flatMap f).Nodup → ∀ p ∈ r, ∀ q ∈ r, ∀ c, c ∈ f p → c ∈ f q → p = q
  | [], _, p, hp, _, _, _, _, _ => absurd hp List.not_mem_nil
  | x :: t, h, p, hp, q, hq, c, h1, h2 => by
    rw [List.flatMap_cons, List.nodup_append] at h
    obtain ⟨_, ht, hd⟩ := h
    rcases List.mem_cons.1 hp with hp2 | hp2
    · rcases List.mem_cons.1 hq with hq2 | hq2
      · rw [hp2, hq2]
      · rw [hp2] at h1
        exact absurd rfl (hd c h1 c (List.mem_flatMap.2 ⟨q, hq2, h2⟩))
    · rcases List.mem_cons.1 hq with hq2 | hq2
      · rw [hq2] at h2
        exact absurd rfl (hd c h2 c (List.mem_flatMap.2 ⟨p, hp2, h1⟩))
      · exact flat_once f t ht p hp2 q hq2 c h1 h2
theorem Right.behind {l : List Pg} {a : Int} {r : List Int} (h : Right l a r) (hr : Reached l a r) {i c : Int} (hi : i ∈ r) (hc : c ∈ kids l i) : r.idxOf i < r.idxOf c := by
  have hcr := h.kid hr hi hc
  have htree := h.tree.2
  rw [List.nodup_append] at htree
  have hca : c ≠ a := fun e => htree.2.2 a (by simp) c (List.mem_flatMap.2 ⟨i, hi, hc⟩) e.symm
  obtain ⟨s, t, e⟩ := List.append_of_mem hcr
  have hn := hr.once.1
  rcases hr.led s c t e with h1 | ⟨p, hp, hk⟩
  · exact absurd h1 hca
  · have hpr : p ∈ r := by rw [e]; exact List.mem_append_left _ hp
    have hpi := flat_once (kids l) r htree.2.1 p hpr i hi c hk hc
    subst hpi
    have hcs : c ∉ s := by
      intro hcs
      rw [e, List.nodup_append] at hn
      exact hn.2.2 c hcs c (List.mem_cons_self) rfl
    rw [e, List.idxOf_append, List.idxOf_append, if_pos hp, if_neg hcs]
    have := List.idxOf_lt_length_of_mem hp
    omega
/-- A number that goes down from a page to those it names. -/
def under (r : List Int) (i : Int) : Nat := r.length - r.idxOf i
theorem Right.down {l : List Pg} {a : Int} {r : List Int} (h : Right l a r) (hr : Reached l a r) {i c : Int} (hi : i ∈ r) (hc : c ∈ kids l i) : under r c < under r i := by
  have h1 := h.behind hr hi hc
  have h2 := List.idxOf_lt_length_of_mem (h.kid hr hi hc)
  unfold under
  omega
theorem under_pos {r : List Int} {i : Int} (hi : i ∈ r) : 0 < under r i := by
  have h2 := List.idxOf_lt_length_of_mem hi
  unfold under
  omega
theorem rdEnF (es : List En) (x : Nat) (h : x < es.length) : (rd_T103 es (x : Int)).f0 = (es.map (fun e => e.f0))[x]'(by rw [List.length_map]; exact h) := by
  show (es.getD x z103).f0 = _
  rw [List.getD_eq_getElem?_getD, List.getElem?_eq_getElem h]
  simp
/-- The same number of pages at most four times as many. -/
theorem flat_le (f : Int → List Int) (n : Nat) : ∀ (q : List Int), (∀ c ∈ q, (f c).length ≤ n) → (q.flatMap f).length ≤ q.length * n
  | [], _ => by simp
  | c :: q, h => by
    have h1 := h c (by simp)
    have h2 := flat_le f n q (fun d hd => h d (List.mem_cons_of_mem _ hd))
    rw [List.flatMap_cons, List.length_append, List.length_cons, Nat.succ_mul]
    omega

end Go.Proofs.Ytngjaajcdbodeaa.Pure

/- Plain law of Even, the program's and the reference's. No condition. -/
namespace Go.Proofs.Ytngjaajcdbodeaa.Pure
open Go.RowKit Go.Proofs.Ytngjaajcdbodeaa.All Go.Proofs.YtngjaajcdbodeaaW.PrintWords Go.Proofs.YtngjaajcdbodeaaW.PrintLast
set_option linter.unusedVariables false

/-- How deep each leaf stands, n steps down at most. -/
def farL (l : List Pg) : Nat → Int → Int → List Int
  | 0, _, _ => []
  | n + 1, i, deep => if pgLeaf l i = true then [deep] else (kids l i).flatMap fun c => farL l n c (deep + 1)
theorem farL_len {l : List Pg} {a : Int} {r : List Int} (h : Right l a r) (hr : Reached l a r) : ∀ (n : Nat) (i deep : Int), i ∈ r → (farL l n i deep).length ≤ 4 ^ n
  | 0, _, _, _ => Nat.zero_le _
  | n + 1, i, deep, hi => by
    rw [farL]
    by_cases hl : pgLeaf l i = true
    · rw [if_pos hl]
      have : 0 < 4 ^ (n + 1) := Nat.pow_pos (by omega)
      exact this
    · rw [if_neg hl]
      have h1 := flat_le (fun c => farL l n c (deep + 1)) (4 ^ n) (kids l i) (fun c hc => farL_len h hr n c _ (h.kid hr hi hc))
      have h2 := Nat.le_trans (kids_len (l := l) (i := i)) (h.len4 (hr.once.2 i hi))
      have h3 := Nat.mul_le_mul_right (4 ^ n) h2
      rw [Nat.pow_succ, Nat.mul_comm (4 ^ n) 4]
      exact Nat.le_trans h1 h3
theorem pow12 {n : Nat} (h : n ≤ 12) : 4 ^ n ≤ 16777216 := by
  have := Nat.pow_le_pow_right (n := 4) (by omega) h
  exact this
theorem wrapD {d : Int} (h0 : 0 ≤ d) (h : d ≤ 1048576) : wrap64 (d + 1) = d + 1 := wrap_small (by omega) (by omega)
theorem spec_far {l : List Pg} {a : Int} {r : List Int} (h : Right l a r) (hr : Reached l a r) : ∀ (n : Nat) (i deep : Int), i ∈ r → deep + n = 13 → 1 ≤ deep → Evn (fun k => spec_l13Far.f k a l i deep) (farL l n i deep)
  | 0, i, deep, hi, hd, h1 => by
    refine Evn.step (fun k => by rw [spec_l13Far.f, if_pos (by omega)]) (Evn.step (fun k => by rw [spec_l13Far.j0, if_pos rfl]; rfl) (Evn.ret _))
  | n + 1, i, deep, hi, hd, h1 => by
    have ho := hr.once.2 i hi
    have hb : (pgL l i).length ≤ 4 := h.len4 ho
    have hlen := h.len.2
    refine Evn.step (fun k => by rw [spec_l13Far.f, if_neg (by omega)]) ?_
    refine Evn.bind (Evn.const fun _ => spec_l1In_f _ _ _) ?_
    rw [show wrap64 ((l.length : Int) - 1) = (l.length : Int) - 1 from wrap_small (by omega) (by omega)]
    rw [decide_eq_true (show 0 ≤ i ∧ i ≤ (l.length : Int) - 1 from ⟨ho.1, by have := ho.2.1; omega⟩)]
    refine Evn.pos rfl (Evn.pos ho.1 (Evn.pos ho.2.1 ?_))
    rw [ho.2.2]
    refine Evn.step (fun k => by rw [spec_l13Far.j0, if_neg (by decide), if_pos ho.1, if_pos ho.2.1]) ?_
    rw [farL]
    cases hl : pgLeaf l i with
    | true =>
      rw [if_pos rfl]
      exact Evn.pos hl (Evn.ret _)
    | false =>
      rw [if_neg (by decide)]
      refine Evn.neg (by rw [show (rd_T90 l i).f1.f0 = false from hl]; decide) ?_
      have hk := kids_inner hl
      have key : ∀ d x : Nat, x + d = (pgL l i).length → ∀ out : List Int, out.length ≤ x * 16777216 → Evn (fun k => spec_l13Far.l0 k deep out (x : Int) a l (pgLeaf l i) (pgL l i)) (out ++ ((kids l i).drop x).flatMap fun c => farL l n c (deep + 1)) := by
        intro d
        induction d with
        | zero =>
          intro x hx out ho2
          rw [List.drop_eq_nil_of_le (by rw [hk, List.length_map]; omega), List.flatMap_nil, List.append_nil]
          exact Evn.step (fun k => by rw [spec_l13Far.l0, if_neg (by omega)]) (Evn.ret _)
        | succ d ihd =>
          intro x hx out ho2
          have hxl : x < (pgL l i).length := by omega
          have hxk : x < (kids l i).length := by rw [hk, List.length_map]; exact hxl
          have hc : (rd_T103 (pgL l i) (x : Int)).f0 = (kids l i)[x] := by
            rw [rdEnF _ _ hxl]
            simp only [hk]
          refine Evn.step (fun k => by rw [spec_l13Far.l0, if_pos (by omega), if_pos (by omega), hc, wrapD (by omega) (by omega)]) ?_
          have hmem : (kids l i)[x] ∈ kids l i := List.getElem_mem _
          have hcr := h.kid hr hi hmem
          have ih := spec_far h hr n _ (deep + 1) hcr (by omega) (by omega)
          have hl1 := Nat.le_trans (farL_len h hr n _ (deep + 1) hcr) (pow12 (by omega))
          refine Evn.bind ih (Evn.pos (by omega) ?_)
          rw [List.drop_eq_getElem_cons hxk, List.flatMap_cons, ← List.append_assoc]
          rw [show wrap64 ((x : Int) + 1) = ((x + 1 : Nat) : Int) from wrapI (by omega)]
          refine ihd (x + 1) (by omega) _ ?_
          rw [List.length_append]
          omega
      have := key _ 0 (Nat.zero_add _) [] (by simp)
      rw [List.drop_zero, List.nil_append] at this
      exact this
/-- What one more leaf makes of the last depth and of the sameness. -/
def evStep (s : Int × Bool) (d : Int) : Int × Bool := (d, s.2 && (s.1 == 0 || s.1 == d))
theorem impl_ev {l : List Pg} {a : Int} {r : List Int} (h : Right l a r) (hr : Reached l a r) : ∀ (n : Nat) (i deep : Int), i ∈ r → deep + n = 13 → 1 ≤ deep → ∀ (p : Int) (s : Bool), Evn (fun k => evM k l i deep p s) ((farL l n i deep).foldl evStep (p, s))
  | 0, i, deep, hi, hd, h1, p, s => Evn.step (fun k => by rw [evM, if_pos (by omega)]; rfl) (Evn.ret _)
  | n + 1, i, deep, hi, hd, h1, p, s => by
    have ho := hr.once.2 i hi
    have hb : (pgL l i).length ≤ 4 := h.len4 ho
    have hlen := h.len.2
    refine Evn.step (fun k => by rw [evM, if_neg (by omega), if_pos ho.1, if_pos ho.2.1]) ?_
    rw [farL]
    cases hl : pgLeaf l i with
    | true =>
      rw [if_pos rfl]
      exact Evn.pos hl (Evn.ret _)
    | false =>
      rw [if_neg (by decide)]
      refine Evn.neg (by rw [show (rd_T90 l i).f1.f0 = false from hl]; decide) ?_
      have hk := kids_inner hl
      have key : ∀ d x : Nat, x + d = (pgL l i).length → ∀ (p : Int) (s : Bool), Evn (fun k => evL k l (pgL l i) deep p s (x : Int)) ((((kids l i).drop x).flatMap fun c => farL l n c (deep + 1)).foldl evStep (p, s)) := by
        intro d
        induction d with
        | zero =>
          intro x hx p s
          rw [List.drop_eq_nil_of_le (by rw [hk, List.length_map]; omega), List.flatMap_nil]
          exact Evn.step (fun k => by rw [evL, if_neg (by omega)]; rfl) (Evn.ret _)
        | succ d ihd =>
          intro x hx p s
          have hxl : x < (pgL l i).length := by omega
          have hxk : x < (kids l i).length := by rw [hk, List.length_map]; exact hxl
          have hc : (rd_T103 (pgL l i) (x : Int)).f0 = (kids l i)[x] := by
            rw [rdEnF _ _ hxl]
            simp only [hk]
          refine Evn.step (fun k => by rw [evL, if_pos (by omega), if_pos (by omega), hc, wrapD (by omega) (by omega), wrapI (by omega)]) ?_
          have hmem : (kids l i)[x] ∈ kids l i := List.getElem_mem _
          have hcr := h.kid hr hi hmem
          refine Evn.bind (impl_ev h hr n _ (deep + 1) hcr (by omega) (by omega) p s) ?_
          rw [List.drop_eq_getElem_cons hxk, List.flatMap_cons, List.foldl_append]
          exact ihd (x + 1) (by omega) _ _
      have := key _ 0 (Nat.zero_add _) p s
      rw [List.drop_zero] at this
      exact this
theorem farL_pos (l : List Pg) : ∀ (n : Nat) (i deep : Int), 1 ≤ deep → ∀ d ∈ farL l n i deep, 1 ≤ d
  | 0, _, _, _, d, hd => absurd hd List.not_mem_nil
  | n + 1, i, deep, h, d, hd => by
    rw [farL] at hd
    split at hd
    · rw [List.mem_singleton] at hd
      omega
    · obtain ⟨c, _, hc⟩ := List.mem_flatMap.1 hd
      exact farL_pos l n c (deep + 1) (by omega) d hc
theorem ev_off (L : List Int) : ∀ p : Int, (L.foldl evStep (p, false)).2 = false := by
  induction L with
  | nil => intro p; rfl
  | cons d t ih => intro p; exact ih d
theorem ev_on : ∀ (L : List Int) (p : Int), 1 ≤ p → (L.foldl evStep (p, true)).2 = L.all fun d => d == p
  | [], p, _ => rfl
  | d :: t, p, hp => by
    have h0 : (p == 0) = false := by rw [beq_eq_false_iff_ne]; omega
    rw [List.foldl_cons, List.all_cons]
    show (t.foldl evStep (d, true && (p == 0 || p == d))).2 = _
    rw [h0]
    by_cases e : p = d
    · subst e
      simp only [Bool.false_or, beq_self_eq_true, Bool.true_and]
      exact ev_on t p hp
    · have e1 : (p == d) = false := by rw [beq_eq_false_iff_ne]; exact e
      have e2 : (d == p) = false := by rw [beq_eq_false_iff_ne]; exact fun h => e h.symm
      rw [e1, e2]
      simp only [Bool.or_self, Bool.and_false, Bool.false_and]
      exact ev_off t d
def evenB : List Int → Bool
  | [] => true
  | d :: t => t.all fun c => c == d
theorem ev_fold (L : List Int) (h : ∀ d ∈ L, 1 ≤ d) : (L.foldl evStep (0, true)).2 = evenB L := by
  cases L with
  | nil => rfl
  | cons d t =>
    rw [List.foldl_cons]
    show (t.foldl evStep (d, true)).2 = _
    exact ev_on t d (h d (by simp))
theorem rdI (r : List Int) (x : Nat) (h : x < r.length) : rd r (x : Int) = r[x] := by
  show r.getD x 0 = _
  rw [List.getD_eq_getElem?_getD, List.getElem?_eq_getElem h]
  rfl
theorem spec_same (d0 : Int) (t : List Int) (ht : t.length ≤ 4294967296) : ∀ d x : Nat, x + d = t.length → Evn (fun k => spec_Even.l0 k (d0 :: t) ((x + 1 : Nat) : Int)) ((t.drop x).all fun c => c == d0)
  | 0, x, hx => by
    rw [List.drop_eq_nil_of_le (by omega)]
    exact Evn.step (fun k => by rw [spec_Even.l0, if_neg (by rw [List.length_cons]; omega)]; rfl) (Evn.ret _)
  | d + 1, x, hx => by
    have hxt : x < t.length := by omega
    have e1 : rd (d0 :: t) ((x + 1 : Nat) : Int) = t[x] := by
      rw [rdI _ _ (by rw [List.length_cons]; omega)]
      rfl
    have e2 : rd (d0 :: t) 0 = d0 := rfl
    rw [List.drop_eq_getElem_cons hxt, List.all_cons]
    refine Evn.step (fun k => by rw [spec_Even.l0, if_pos (by rw [List.length_cons]; omega), if_pos (by omega), if_pos (by rw [List.length_cons]; omega), e1, e2, wrapI (by omega)]) ?_
    by_cases h : t[x] = d0
    · rw [show (t[x] == d0) = true by rw [h]; exact beq_self_eq_true _, Bool.true_and]
      exact Evn.pos h (spec_same d0 t ht d (x + 1) (by omega))
    · rw [show (t[x] == d0) = false from beq_eq_false_iff_ne.2 h, Bool.false_and]
      exact Evn.neg h (Evn.ret _)
theorem even_both (a : Int) (l : List Pg) (hl : l.length ≤ 1048576) (hp : ∀ p ∈ l, p.f1.f1.length ≤ 1048576) : ∃ b : Bool, Evn (fun k => spec_Even.f k a l) b ∧ Evn (fun k => impl_Even.f k a l) b := by
  obtain ⟨r, hw, hr⟩ := reached l hl hp a
  have h1 := spec_bookOk a l r hl hp hw hr
  have h2 := impl_bookOk a l r hl hp hw hr
  by_cases h : Right l a r
  · rw [decide_eq_true h] at h1 h2
    have har := hr.root_mem h.root
    have hpos := farL_pos l 12 a 1 (by omega)
    have hlen := farL_len h hr 12 a 1 har
    have hs := spec_far h hr 12 a 1 har (by omega) (by omega)
    have hi := impl_ev h hr 12 a 1 har (by omega) (by omega) 0 true
    have hf := ev_fold _ hpos
    refine ⟨evenB (farL l 12 a 1), ?_, ?_⟩
    · unfold spec_Even.f
      refine Evn.bind h1 (Evn.pos rfl (Evn.bind hs ?_))
      have hlen2 := Nat.le_trans hlen (pow12 (Nat.le_refl _))
      generalize farL l 12 a 1 = L at hlen2
      cases L with
      | nil => exact Evn.step (fun k => by rw [spec_Even.l0, if_neg (by decide)]; rfl) (Evn.ret _)
      | cons d t =>
        have := spec_same d t (by rw [List.length_cons] at hlen2; omega) t.length 0 (by omega)
        rw [List.drop_zero] at this
        exact this
    · unfold impl_Even.f
      refine Evn.bind h2 (Evn.pos rfl (Evn.bind hi ?_))
      rw [hf]
      exact Evn.ret _
  · rw [decide_eq_false h] at h1 h2
    exact ⟨false, Evn.bind h1 (Evn.neg (by decide) (Evn.ret _)), Evn.bind h2 (Evn.neg (by decide) (Evn.ret _))⟩

end Go.Proofs.Ytngjaajcdbodeaa.Pure

/- The program's Even returns what the reference's returns, for all arguments. No condition. -/
namespace Go.Proofs.Ytngjaajcdbodeaa.Pure
open Go.RowKit Go.Proofs.Ytngjaajcdbodeaa.All Go.Proofs.Ytngjaajcdbodeaa.Op
set_option linter.unusedVariables false

theorem FnExactEven (y0 : Int × List LPg) (hg0 : good41 y0) : ∃ k, laws_FnExactEven.f k y0.1 y0.2 = some true := by
  obtain ⟨a, l⟩ := y0
  have hg : l.length ≤ 9223372036854775807 ∧ ∀ p ∈ l, p.f1.f1.length ≤ 9223372036854775807 := ⟨hg0.2.1, fun p hp => (hg0.2.2 p hp).2.2.1⟩
  apply Evn.some_k
  unfold laws_FnExactEven.f
  refine Evn.bind (szBook_f a l 1048576 (by omega) hg.1 hg.2) ?_
  by_cases h : (1048576 : Int) < l.length + heap l
  · rw [if_pos h]
    exact Evn.ret _
  · rw [if_neg h]
    refine Evn.neg (by omega) ?_
    have hs : Small l := Small.of l (by omega)
    have hm := hs.made
    obtain ⟨r, h1, h2⟩ := even_both a (l.map toPg) hm.1 hm.2
    refine Evn.bind (toBook_f a l hs.len hs.ent) (Evn.bind h1 (Evn.bind (toBook_f a l hs.len hs.ent) (Evn.bind h2 (Evn.neg (by simp) ?_))))
    exact Evn.bind (toBook_f a l hs.len hs.ent) (Evn.bind (eqBook_same a _ (big_of hm.1) fun p hp => big_of (hm.2 p hp)) (Evn.ret _))

end Go.Proofs.Ytngjaajcdbodeaa.Pure
