/- The texts on which the row FnExactPathTo rests, part 4: contracts of the functions that it reaches and plain laws of what they compute. No condition. -/
import Derived.Maps.OwnOps
import Derived.Maps.Views
import Derived.Test.YtngjaajcdbodeaaMgFnExactPathTo1
import Derived.Test.YtngjaajcdbodeaaMgFnExactPathTo2
import Derived.Test.YtngjaajcdbodeaaMgFnExactPathTo3
namespace Go.Proofs.Ytngjaajcdbodeaa.All
open Go.RowKit Go.Proofs.YtngjaajcdbodeaaW.PrintWords Go.Proofs.YtngjaajcdbodeaaW.PrintLast Go.Proofs.YtngjaajcdbodeaaW.PrintMore
attribute [local go_sem] max2_int min2_int max_two min_two max_three min_three max_four min_four   -- for this text's walks alone
set_option linter.unusedVariables false
set_option linter.unusedSimpArgs false

/-! ### laws_eqPage: function 121 -/
def laws_eqPage.f (k : Nat) (a0_0 : Bool) (a0_1 : Bool) (l0_2 : List (S103)) (a1_0 : Bool) (a1_1 : Bool) (l1_2 : List (S103)) : Option (Bool) := if (a0_0 != a1_0) = true then (some false) else ((laws_eqNode.f k a0_1 l0_2 a1_1 l1_2).bind fun t367 => (if t367 = true then (some true) else (some false)))
theorem laws_eqPage.mono : ∀ a0 a1 a2 a3 a4 a5 k, LeO (laws_eqPage.f k a0 a1 a2 a3 a4 a5) (laws_eqPage.f (k + 1) a0 a1 a2 a3 a4 a5) := by
  intro a0 a1 a2 a3 a4 a5 k
  unfold laws_eqPage.f
  repeat' first
      | (with_reducible exact laws_eqNode.mono _ _ _ _ _)
      | (with_reducible exact LeO.refl _)
      | (with_reducible exact LeO.none _)
      | (with_reducible refine LeO.ite ?_ ?_)
      | (with_reducible refine LeO.bind ?_ (fun _ => ?_))
      | exact laws_eqNode.mono _ _ _ _ _
      | exact LeO.none _
      | refine LeO.ite ?_ ?_
      | refine LeO.bind ?_ (fun _ => ?_)
set_option maxHeartbeats 8000000 in
set_option maxRecDepth 100000 in
theorem laws_eqPage.calls (k : Nat) (a0_0 : Bool) (a0_1 : Bool) (A0_2 : Option Addr) (c0_2 : Nat) (l0_2 : List (S103)) (a1_0 : Bool) (a1_1 : Bool) (A1_2 : Option Addr) (c1_2 : Nat) (l1_2 : List (S103)) (r : Bool) (w : World) (hr0_2 : Kd.C k103 w A0_2 l0_2.length l0_2) (hc0_2 : l0_2.length ≤ c0_2) (hr1_2 : Kd.C k103 w A1_2 l1_2.length l1_2) (hc1_2 : l1_2.length ≤ c1_2) (h : laws_eqPage.f k a0_0 a0_1 l0_2 a1_0 a1_1 l1_2 = some r) :
    Calls Try.prog 121 #[.agg #[.bool a0_0, .bool a0_1, .slice A0_2 l0_2.length c0_2], .agg #[.bool a1_0, .bool a1_1, .slice A1_2 l1_2.length c1_2]] w fun e w' => e = .returned (.bool r) ∧ Below w.heap.size w w' := by
  have hu90 := Try.underlying90
  have hu54 := Try.underlying54
  have HR0_2 := Aside0.mk hr0_2
  have HC0_2 := Aside0.mk hc0_2
  clear hr0_2 hc0_2
  have HR1_2 := Aside0.mk hr1_2
  have HC1_2 := Aside0.mk hc1_2
  clear hr1_2 hc1_2
  have HB := Aside0.mk (Below.refl w.heap.size w)
  have H : (if (a0_0 != a1_0) = true then (some false) else ((laws_eqNode.f k a0_1 l0_2 a1_1 l1_2).bind fun t367 => (if t367 = true then (some true) else (some false)))) = some r := h
  clear h
  by_cases c3 : (a0_0 != a1_0) = true
  · rw [if_pos c3] at H
    have c3b0 : (a0_0 != a1_0) = true := c3
    (try (have c3b1 : decide (a0_0 = a1_0) = false := by simpa using c3))
    (try (have c3b2 : (a0_0 == a1_0) = false := by simpa using c3))
    (try (have c3b3 : ¬ (a0_0 = a1_0) := by simpa using c3))
    clear c3
    obtain rfl := Option.some.inj H
    go_enter Try.func121, Try.ntmps121
    go_wp2_with (first | ((with_reducible refine gate_dst (N := 2) rfl ?_); refine box_event ?hg (N := 2) ?hd (cs := #[.bool a0_0, .bool a0_1, .slice A0_2 l0_2.length c0_2]) (t := 90) ?hr ?_; (case hd => rfl); (case hg => rfl); (case hr => first | (go_simp; done) | (go_simp; rfl)); intro gb365 hg w4 hbox hb; have n0_ := Aside0.mk (below_step (by repeat (first | (with_reducible first | exact HB.out | apply below_alloc | apply pw_below_drewN | apply below_drew1) | exact HB.out)) hb); have n1_ := Aside0.mk (hbox); have n2_ := Aside0.mk ((by rw [hg]; exact (below_size (by repeat (first | (with_reducible first | exact HB.out | apply below_alloc | apply pw_below_drewN | apply below_drew1) | exact HB.out))) : w.heap.size ≤ gb365)); have n3_ := Aside0.mk ((by rw [hg]; exact (below_size (by repeat (first | (with_reducible first | exact HB.out | apply below_alloc | apply pw_below_drewN | apply below_drew1) | exact HB.out))) : w.heap.size ≤ gb365)); clear HB; have HB := n0_; have BK365 := n1_; have GW365 := n2_; have GE365 := n3_; clear n0_ n1_ n2_ n3_; clear hb hbox hg) | ((with_reducible refine gate_dst (N := 3) rfl ?_); refine box_event ?hg (N := 3) ?hd (cs := #[.bool a1_0, .bool a1_1, .slice A1_2 l1_2.length c1_2]) (t := 90) ?hr ?_; (case hd => rfl); (case hg => rfl); (case hr => first | (go_simp; done) | (go_simp; rfl)); intro gb366 hg w5 hbox hb; have n0_ := Aside0.mk (blk_below (g := gb365) (o := .cells #[.bool a0_0, .bool a0_1, .slice A0_2 l0_2.length c0_2] 90 (0, 0)) (by (with_reducible repeat (first | refine blk_drewN ?_ _ | refine blk_drew ?_ | refine blk_alloc ?_ _)); exact BK365.out) hb); have n1_ := Aside0.mk (below_step (by repeat (first | (with_reducible first | exact HB.out | apply below_alloc | apply pw_below_drewN | apply below_drew1 | refine below_set ?_ GE365.out) | exact HB.out)) hb); have n2_ := Aside0.mk (hbox); have n3_ := Aside0.mk ((by rw [hg]; exact (below_size (by repeat (first | (with_reducible first | exact HB.out | apply below_alloc | apply pw_below_drewN | apply below_drew1 | refine below_set ?_ GE365.out) | exact HB.out))) : w.heap.size ≤ gb366)); have n4_ := Aside0.mk ((by rw [hg]; exact (below_size (by repeat (first | (with_reducible first | exact HB.out | apply below_alloc | apply pw_below_drewN | apply below_drew1 | refine below_set ?_ GE365.out) | exact HB.out))) : w.heap.size ≤ gb366)); have n5_ := Aside0.mk ((by rw [hg]; exact Nat.ne_of_lt (blk_lt (g := gb365) (o := .cells #[.bool a0_0, .bool a0_1, .slice A0_2 l0_2.length c0_2] 90 (0, 0)) (by (with_reducible repeat (first | refine blk_drewN ?_ _ | refine blk_drew ?_ | refine blk_alloc ?_ _)); exact BK365.out)) : gb365 ≠ gb366)); have n6_ := Aside0.mk ((by rw [hg]; exact Nat.ne_of_gt (blk_lt (g := gb365) (o := .cells #[.bool a0_0, .bool a0_1, .slice A0_2 l0_2.length c0_2] 90 (0, 0)) (by (with_reducible repeat (first | refine blk_drewN ?_ _ | refine blk_drew ?_ | refine blk_alloc ?_ _)); exact BK365.out)) : gb366 ≠ gb365)); clear BK365; clear HB; have BK365 := n0_; have HB := n1_; have BK366 := n2_; have GW366 := n3_; have GE366 := n4_; have NB365_366 := n5_; have NB366_365 := n6_; clear n0_ n1_ n2_ n3_ n4_ n5_ n6_; clear hb hbox hg; have hnb6 := NB365_366.out; have hnc6 := NB366_365.out; have hcz7_0 : w5.cell? ⟨gb365, 0, none⟩ = some (.bool a0_0) := (blk_cell BK365.out 0).trans rfl; have hcz7_1 : w5.cell? ⟨gb365, 1, none⟩ = some (.bool a0_1) := (blk_cell BK365.out 1).trans rfl; have hcz7_2 : w5.cell? ⟨gb365, 2, none⟩ = some (.slice A0_2 l0_2.length c0_2) := (blk_cell BK365.out 2).trans rfl; have hfz7_0 := blk_frozen BK365.out 0; have hfz7_1 := blk_frozen BK365.out 1; have hfz7_2 := blk_frozen BK365.out 2; have hcz8_0 : w5.cell? ⟨gb366, 0, none⟩ = some (.bool a1_0) := (blk_cell BK366.out 0).trans rfl; have hcz8_1 : w5.cell? ⟨gb366, 1, none⟩ = some (.bool a1_1) := (blk_cell BK366.out 1).trans rfl; have hcz8_2 : w5.cell? ⟨gb366, 2, none⟩ = some (.slice A1_2 l1_2.length c1_2) := (blk_cell BK366.out 2).trans rfl; have hfz8_0 := blk_frozen BK366.out 0; have hfz8_1 := blk_frozen BK366.out 1; have hfz8_2 := blk_frozen BK366.out 2))
    go_ret
    exact ⟨by first | rfl | (simp [errW_none, errW_some] <;> rfl) | (simp [*, errW_none, errW_some] <;> rfl), by repeat (first | (with_reducible first | exact HB.out | apply below_alloc | apply pw_below_drewN | apply below_drew1 | refine below_set ?_ GE365.out | refine below_set ?_ GE366.out) | exact HB.out)⟩
  · rw [if_neg c3] at H
    have c3b0 : (a0_0 != a1_0) = false := by simpa using c3
    (try (have c3b1 : decide (a0_0 = a1_0) = true := by simpa using c3))
    (try (have c3b2 : (a0_0 == a1_0) = true := by simpa using c3))
    clear c3
    replace H := Option.bind_eq_some_iff.mp H
    obtain ⟨t367, A90, H⟩ := H
    replace H : (if t367 = true then (some true) else (some false)) = some r := H
    have A9 := Aside0.mk A90
    clear A90
    by_cases c10 : t367 = true
    · subst c10
      have H1 : (some true) = some r := by rw [if_pos rfl] at H; exact H
      clear H
      have H := H1
      clear H1
      obtain rfl := Option.some.inj H
      go_enter Try.func121, Try.ntmps121
      go_wp2_with (first | ((with_reducible refine gate_dst (N := 2) rfl ?_); refine box_event ?hg (N := 2) ?hd (cs := #[.bool a0_0, .bool a0_1, .slice A0_2 l0_2.length c0_2]) (t := 90) ?hr ?_; (case hd => rfl); (case hg => rfl); (case hr => first | (go_simp; done) | (go_simp; rfl)); intro gb365 hg w11 hbox hb; have n0_ := Aside0.mk (below_step (by repeat (first | (with_reducible first | exact HB.out | apply below_alloc | apply pw_below_drewN | apply below_drew1) | exact HB.out)) hb); have n1_ := Aside0.mk (hbox); have n2_ := Aside0.mk ((by rw [hg]; exact (below_size (by repeat (first | (with_reducible first | exact HB.out | apply below_alloc | apply pw_below_drewN | apply below_drew1) | exact HB.out))) : w.heap.size ≤ gb365)); have n3_ := Aside0.mk ((by rw [hg]; exact (below_size (by repeat (first | (with_reducible first | exact HB.out | apply below_alloc | apply pw_below_drewN | apply below_drew1) | exact HB.out))) : w.heap.size ≤ gb365)); clear HB; have HB := n0_; have BK365 := n1_; have GW365 := n2_; have GE365 := n3_; clear n0_ n1_ n2_ n3_; clear hb hbox hg) | ((with_reducible refine gate_dst (N := 3) rfl ?_); refine box_event ?hg (N := 3) ?hd (cs := #[.bool a1_0, .bool a1_1, .slice A1_2 l1_2.length c1_2]) (t := 90) ?hr ?_; (case hd => rfl); (case hg => rfl); (case hr => first | (go_simp; done) | (go_simp; rfl)); intro gb366 hg w12 hbox hb; have n0_ := Aside0.mk (blk_below (g := gb365) (o := .cells #[.bool a0_0, .bool a0_1, .slice A0_2 l0_2.length c0_2] 90 (0, 0)) (by (with_reducible repeat (first | refine blk_drewN ?_ _ | refine blk_drew ?_ | refine blk_alloc ?_ _)); exact BK365.out) hb); have n1_ := Aside0.mk (below_step (by repeat (first | (with_reducible first | exact HB.out | apply below_alloc | apply pw_below_drewN | apply below_drew1 | refine below_set ?_ GE365.out) | exact HB.out)) hb); have n2_ := Aside0.mk (hbox); have n3_ := Aside0.mk ((by rw [hg]; exact (below_size (by repeat (first | (with_reducible first | exact HB.out | apply below_alloc | apply pw_below_drewN | apply below_drew1 | refine below_set ?_ GE365.out) | exact HB.out))) : w.heap.size ≤ gb366)); have n4_ := Aside0.mk ((by rw [hg]; exact (below_size (by repeat (first | (with_reducible first | exact HB.out | apply below_alloc | apply pw_below_drewN | apply below_drew1 | refine below_set ?_ GE365.out) | exact HB.out))) : w.heap.size ≤ gb366)); have n5_ := Aside0.mk ((by rw [hg]; exact Nat.ne_of_lt (blk_lt (g := gb365) (o := .cells #[.bool a0_0, .bool a0_1, .slice A0_2 l0_2.length c0_2] 90 (0, 0)) (by (with_reducible repeat (first | refine blk_drewN ?_ _ | refine blk_drew ?_ | refine blk_alloc ?_ _)); exact BK365.out)) : gb365 ≠ gb366)); have n6_ := Aside0.mk ((by rw [hg]; exact Nat.ne_of_gt (blk_lt (g := gb365) (o := .cells #[.bool a0_0, .bool a0_1, .slice A0_2 l0_2.length c0_2] 90 (0, 0)) (by (with_reducible repeat (first | refine blk_drewN ?_ _ | refine blk_drew ?_ | refine blk_alloc ?_ _)); exact BK365.out)) : gb366 ≠ gb365)); clear BK365; clear HB; have BK365 := n0_; have HB := n1_; have BK366 := n2_; have GW366 := n3_; have GE366 := n4_; have NB365_366 := n5_; have NB366_365 := n6_; clear n0_ n1_ n2_ n3_ n4_ n5_ n6_; clear hb hbox hg; have hnb13 := NB365_366.out; have hnc13 := NB366_365.out; have hcz14_0 : w12.cell? ⟨gb365, 0, none⟩ = some (.bool a0_0) := (blk_cell BK365.out 0).trans rfl; have hcz14_1 : w12.cell? ⟨gb365, 1, none⟩ = some (.bool a0_1) := (blk_cell BK365.out 1).trans rfl; have hcz14_2 : w12.cell? ⟨gb365, 2, none⟩ = some (.slice A0_2 l0_2.length c0_2) := (blk_cell BK365.out 2).trans rfl; have hfz14_0 := blk_frozen BK365.out 0; have hfz14_1 := blk_frozen BK365.out 1; have hfz14_2 := blk_frozen BK365.out 2; have hcz15_0 : w12.cell? ⟨gb366, 0, none⟩ = some (.bool a1_0) := (blk_cell BK366.out 0).trans rfl; have hcz15_1 : w12.cell? ⟨gb366, 1, none⟩ = some (.bool a1_1) := (blk_cell BK366.out 1).trans rfl; have hcz15_2 : w12.cell? ⟨gb366, 2, none⟩ = some (.slice A1_2 l1_2.length c1_2) := (blk_cell BK366.out 2).trans rfl; have hfz15_0 := blk_frozen BK366.out 0; have hfz15_1 := blk_frozen BK366.out 1; have hfz15_2 := blk_frozen BK366.out 2) | ((with_reducible refine gate_callee (f := 30) rfl ?_); refine goesL_ (some 14) rfl rfl Try.func30 (by kernel_rfl) rfl #[.agg #[.bool a0_1, .slice A0_2 l0_2.length c0_2], .agg #[.bool a1_1, .slice A1_2 l1_2.length c1_2]] rfl (by (try simp only [List.map_toArray, List.map_cons, List.map_nil]); first | done | rfl | (simp only [List.length_drop, List.length_take]; rfl)) ?_; (with_reducible refine (laws_eqNode.calls k a0_1 _ _ l0_2 a1_1 _ _ l1_2 true _ ?side1 ?side2 ?side3 ?side4 A9.out).mono ?_); (case side1 => repeat (first | exact (Kd.C_below HR0_2.out HB.out) | (with_reducible refine Kd.C_alloc ?_ _) | (with_reducible refine Kd.C_drewN ?_ _) | (with_reducible refine Kd.C_drew ?_))); (case side2 => exact HC0_2.out); (case side3 => repeat (first | exact (Kd.C_below HR1_2.out HB.out) | (with_reducible refine Kd.C_alloc ?_ _) | (with_reducible refine Kd.C_drewN ?_ _) | (with_reducible refine Kd.C_drew ?_))); (case side4 => exact HC1_2.out); rintro e w16 ⟨rfl, hb⟩; refine ⟨_, rfl, ?_⟩; have n0_ := Aside0.mk (blk_below (g := gb365) (o := .cells #[.bool a0_0, .bool a0_1, .slice A0_2 l0_2.length c0_2] 90 (0, 0)) (by (with_reducible repeat (first | refine blk_drewN ?_ _ | refine blk_drew ?_ | refine blk_alloc ?_ _)); exact BK365.out) hb); have n1_ := Aside0.mk (blk_below (g := gb366) (o := .cells #[.bool a1_0, .bool a1_1, .slice A1_2 l1_2.length c1_2] 90 (0, 0)) (by (with_reducible repeat (first | refine blk_drewN ?_ _ | refine blk_drew ?_ | refine blk_alloc ?_ _)); exact BK366.out) hb); have n2_ := Aside0.mk (below_step (by repeat (first | (with_reducible first | exact HB.out | apply below_alloc | apply pw_below_drewN | apply below_drew1 | refine below_set ?_ GE365.out | refine below_set ?_ GE366.out) | exact HB.out)) hb); clear BK365; clear BK366; clear HB; have BK365 := n0_; have BK366 := n1_; have HB := n2_; clear n0_ n1_ n2_; (try clear hb); (try clear hb2); (try clear hk); (try clear hi)))
      go_ret
      exact ⟨by first | rfl | (simp [errW_none, errW_some] <;> rfl) | (simp [*, errW_none, errW_some] <;> rfl), by repeat (first | (with_reducible first | exact HB.out | apply below_alloc | apply pw_below_drewN | apply below_drew1 | refine below_set ?_ GE365.out | refine below_set ?_ GE366.out) | exact HB.out)⟩
    · replace c10 := Bool.eq_false_iff.mpr c10
      subst c10
      have H1 : (some false) = some r := by rw [if_neg (show ¬ (false = true) by decide)] at H; exact H
      clear H
      have H := H1
      clear H1
      obtain rfl := Option.some.inj H
      go_enter Try.func121, Try.ntmps121
      go_wp2_with (first | ((with_reducible refine gate_dst (N := 2) rfl ?_); refine box_event ?hg (N := 2) ?hd (cs := #[.bool a0_0, .bool a0_1, .slice A0_2 l0_2.length c0_2]) (t := 90) ?hr ?_; (case hd => rfl); (case hg => rfl); (case hr => first | (go_simp; done) | (go_simp; rfl)); intro gb365 hg w17 hbox hb; have n0_ := Aside0.mk (below_step (by repeat (first | (with_reducible first | exact HB.out | apply below_alloc | apply pw_below_drewN | apply below_drew1) | exact HB.out)) hb); have n1_ := Aside0.mk (hbox); have n2_ := Aside0.mk ((by rw [hg]; exact (below_size (by repeat (first | (with_reducible first | exact HB.out | apply below_alloc | apply pw_below_drewN | apply below_drew1) | exact HB.out))) : w.heap.size ≤ gb365)); have n3_ := Aside0.mk ((by rw [hg]; exact (below_size (by repeat (first | (with_reducible first | exact HB.out | apply below_alloc | apply pw_below_drewN | apply below_drew1) | exact HB.out))) : w.heap.size ≤ gb365)); clear HB; have HB := n0_; have BK365 := n1_; have GW365 := n2_; have GE365 := n3_; clear n0_ n1_ n2_ n3_; clear hb hbox hg) | ((with_reducible refine gate_dst (N := 3) rfl ?_); refine box_event ?hg (N := 3) ?hd (cs := #[.bool a1_0, .bool a1_1, .slice A1_2 l1_2.length c1_2]) (t := 90) ?hr ?_; (case hd => rfl); (case hg => rfl); (case hr => first | (go_simp; done) | (go_simp; rfl)); intro gb366 hg w18 hbox hb; have n0_ := Aside0.mk (blk_below (g := gb365) (o := .cells #[.bool a0_0, .bool a0_1, .slice A0_2 l0_2.length c0_2] 90 (0, 0)) (by (with_reducible repeat (first | refine blk_drewN ?_ _ | refine blk_drew ?_ | refine blk_alloc ?_ _)); exact BK365.out) hb); have n1_ := Aside0.mk (below_step (by repeat (first | (with_reducible first | exact HB.out | apply below_alloc | apply pw_below_drewN | apply below_drew1 | refine below_set ?_ GE365.out) | exact HB.out)) hb); have n2_ := Aside0.mk (hbox); have n3_ := Aside0.mk ((by rw [hg]; exact (below_size (by repeat (first | (with_reducible first | exact HB.out | apply below_alloc | apply pw_below_drewN | apply below_drew1 | refine below_set ?_ GE365.out) | exact HB.out))) : w.heap.size ≤ gb366)); have n4_ := Aside0.mk ((by rw [hg]; exact (below_size (by repeat (first | (with_reducible first | exact HB.out | apply below_alloc | apply pw_below_drewN | apply below_drew1 | refine below_set ?_ GE365.out) | exact HB.out))) : w.heap.size ≤ gb366)); have n5_ := Aside0.mk ((by rw [hg]; exact Nat.ne_of_lt (blk_lt (g := gb365) (o := .cells #[.bool a0_0, .bool a0_1, .slice A0_2 l0_2.length c0_2] 90 (0, 0)) (by (with_reducible repeat (first | refine blk_drewN ?_ _ | refine blk_drew ?_ | refine blk_alloc ?_ _)); exact BK365.out)) : gb365 ≠ gb366)); have n6_ := Aside0.mk ((by rw [hg]; exact Nat.ne_of_gt (blk_lt (g := gb365) (o := .cells #[.bool a0_0, .bool a0_1, .slice A0_2 l0_2.length c0_2] 90 (0, 0)) (by (with_reducible repeat (first | refine blk_drewN ?_ _ | refine blk_drew ?_ | refine blk_alloc ?_ _)); exact BK365.out)) : gb366 ≠ gb365)); clear BK365; clear HB; have BK365 := n0_; have HB := n1_; have BK366 := n2_; have GW366 := n3_; have GE366 := n4_; have NB365_366 := n5_; have NB366_365 := n6_; clear n0_ n1_ n2_ n3_ n4_ n5_ n6_; clear hb hbox hg; have hnb19 := NB365_366.out; have hnc19 := NB366_365.out; have hcz20_0 : w18.cell? ⟨gb365, 0, none⟩ = some (.bool a0_0) := (blk_cell BK365.out 0).trans rfl; have hcz20_1 : w18.cell? ⟨gb365, 1, none⟩ = some (.bool a0_1) := (blk_cell BK365.out 1).trans rfl; have hcz20_2 : w18.cell? ⟨gb365, 2, none⟩ = some (.slice A0_2 l0_2.length c0_2) := (blk_cell BK365.out 2).trans rfl; have hfz20_0 := blk_frozen BK365.out 0; have hfz20_1 := blk_frozen BK365.out 1; have hfz20_2 := blk_frozen BK365.out 2; have hcz21_0 : w18.cell? ⟨gb366, 0, none⟩ = some (.bool a1_0) := (blk_cell BK366.out 0).trans rfl; have hcz21_1 : w18.cell? ⟨gb366, 1, none⟩ = some (.bool a1_1) := (blk_cell BK366.out 1).trans rfl; have hcz21_2 : w18.cell? ⟨gb366, 2, none⟩ = some (.slice A1_2 l1_2.length c1_2) := (blk_cell BK366.out 2).trans rfl; have hfz21_0 := blk_frozen BK366.out 0; have hfz21_1 := blk_frozen BK366.out 1; have hfz21_2 := blk_frozen BK366.out 2) | ((with_reducible refine gate_callee (f := 30) rfl ?_); refine goesL_ (some 14) rfl rfl Try.func30 (by kernel_rfl) rfl #[.agg #[.bool a0_1, .slice A0_2 l0_2.length c0_2], .agg #[.bool a1_1, .slice A1_2 l1_2.length c1_2]] rfl (by (try simp only [List.map_toArray, List.map_cons, List.map_nil]); first | done | rfl | (simp only [List.length_drop, List.length_take]; rfl)) ?_; (with_reducible refine (laws_eqNode.calls k a0_1 _ _ l0_2 a1_1 _ _ l1_2 false _ ?side1 ?side2 ?side3 ?side4 A9.out).mono ?_); (case side1 => repeat (first | exact (Kd.C_below HR0_2.out HB.out) | (with_reducible refine Kd.C_alloc ?_ _) | (with_reducible refine Kd.C_drewN ?_ _) | (with_reducible refine Kd.C_drew ?_))); (case side2 => exact HC0_2.out); (case side3 => repeat (first | exact (Kd.C_below HR1_2.out HB.out) | (with_reducible refine Kd.C_alloc ?_ _) | (with_reducible refine Kd.C_drewN ?_ _) | (with_reducible refine Kd.C_drew ?_))); (case side4 => exact HC1_2.out); rintro e w22 ⟨rfl, hb⟩; refine ⟨_, rfl, ?_⟩; have n0_ := Aside0.mk (blk_below (g := gb365) (o := .cells #[.bool a0_0, .bool a0_1, .slice A0_2 l0_2.length c0_2] 90 (0, 0)) (by (with_reducible repeat (first | refine blk_drewN ?_ _ | refine blk_drew ?_ | refine blk_alloc ?_ _)); exact BK365.out) hb); have n1_ := Aside0.mk (blk_below (g := gb366) (o := .cells #[.bool a1_0, .bool a1_1, .slice A1_2 l1_2.length c1_2] 90 (0, 0)) (by (with_reducible repeat (first | refine blk_drewN ?_ _ | refine blk_drew ?_ | refine blk_alloc ?_ _)); exact BK366.out) hb); have n2_ := Aside0.mk (below_step (by repeat (first | (with_reducible first | exact HB.out | apply below_alloc | apply pw_below_drewN | apply below_drew1 | refine below_set ?_ GE365.out | refine below_set ?_ GE366.out) | exact HB.out)) hb); clear BK365; clear BK366; clear HB; have BK365 := n0_; have BK366 := n1_; have HB := n2_; clear n0_ n1_ n2_; (try clear hb); (try clear hb2); (try clear hk); (try clear hi)))
      go_ret
      exact ⟨by first | rfl | (simp [errW_none, errW_some] <;> rfl) | (simp [*, errW_none, errW_some] <;> rfl), by repeat (first | (with_reducible first | exact HB.out | apply below_alloc | apply pw_below_drewN | apply below_drew1 | refine below_set ?_ GE365.out | refine below_set ?_ GE366.out) | exact HB.out)⟩

end Go.Proofs.Ytngjaajcdbodeaa.All

namespace Go.Proofs.Ytngjaajcdbodeaa.All
open Go.RowKit Go.Proofs.YtngjaajcdbodeaaW.PrintWords Go.Proofs.YtngjaajcdbodeaaW.PrintLast Go.Proofs.YtngjaajcdbodeaaW.PrintMore
attribute [local go_sem] max2_int min2_int max_two min_two max_three min_three max_four min_four   -- for this text's walks alone
set_option linter.unusedVariables false
set_option linter.unusedSimpArgs false

/-! ### laws_eqPageS: function 79 -/
def laws_eqPageS.l0 : Nat → List (S90) → List (S90) → Int → Option (Bool)
  | 0, _, _, _ => none
  | k + 1, x0, x1, x5 => if x5 < (x0.length : Int) then (if 0 ≤ x5 then (if x5 < (x1.length : Int) then ((laws_eqPage.f k ((rd_T90 x0 x5).f0) ((rd_T90 x0 x5).f1.f0) ((rd_T90 x0 x5).f1.f1) ((rd_T90 x1 x5).f0) ((rd_T90 x1 x5).f1.f0) ((rd_T90 x1 x5).f1.f1)).bind fun t370 => (if t370 = true then (laws_eqPageS.l0 k x0 x1 (wrap64 (x5 + 1))) else (some false))) else (none)) else (none)) else (some true)
def laws_eqPageS.f (k : Nat) (l0 : List (S90)) (l1 : List (S90)) : Option (Bool) := if (l0.length : Int) = (l1.length : Int) then (laws_eqPageS.l0 k l0 l1 0) else (some false)
theorem laws_eqPageS.mono_l : ∀ k, (∀ y0 y1 y2, LeO (laws_eqPageS.l0 k y0 y1 y2) (laws_eqPageS.l0 (k + 1) y0 y1 y2))
  | 0 => fun _ _ _ r h => by simp [laws_eqPageS.l0] at h
  | k + 1 => by
    have ih0 := laws_eqPageS.mono_l k
    · intro y0 y1 y2
      unfold laws_eqPageS.l0
      repeat' first
      | (with_reducible exact ih0 _ _ _)
      | (with_reducible exact laws_eqPage.mono _ _ _ _ _ _ _)
      | (with_reducible exact LeO.refl _)
      | (with_reducible exact LeO.none _)
      | (with_reducible refine LeO.ite ?_ ?_)
      | (with_reducible refine LeO.bind ?_ (fun _ => ?_))
      | exact ih0 _ _ _
      | exact laws_eqPage.mono _ _ _ _ _ _ _
      | exact LeO.none _
      | refine LeO.ite ?_ ?_
      | refine LeO.bind ?_ (fun _ => ?_)
theorem laws_eqPageS.mono : ∀ a0 a1 k, LeO (laws_eqPageS.f k a0 a1) (laws_eqPageS.f (k + 1) a0 a1) := by
  intro a0 a1 k
  have ih0 := laws_eqPageS.mono_l k
  unfold laws_eqPageS.f
  repeat' first
      | (with_reducible exact ih0 _ _ _)
      | (with_reducible exact laws_eqPage.mono _ _ _ _ _ _ _)
      | (with_reducible exact LeO.refl _)
      | (with_reducible exact LeO.none _)
      | (with_reducible refine LeO.ite ?_ ?_)
      | (with_reducible refine LeO.bind ?_ (fun _ => ?_))
      | exact ih0 _ _ _
      | exact laws_eqPage.mono _ _ _ _ _ _ _
      | exact LeO.none _
      | refine LeO.ite ?_ ?_
      | refine LeO.bind ?_ (fun _ => ?_)
def laws_eqPageS.T6 : Bool × List (List Nat × List Nat) := (true, [([], []), ([], []), ([0, 1], [0, 1]), ([2], [2]), ([], []), ([], []), ([4, 5], [4, 5]), ([6], [6]), ([3, 7], [3, 7]), ([8], [8])])
def laws_eqPageS.B6 : List Nat := [0, 0, 3, 7, 0, 0, 48, 112, 255, 511]
theorem laws_eqPageS.tab6 : rtab .any (opsOf Try.f79 6) = laws_eqPageS.T6 := by kernel_rfl
theorem laws_eqPageS.bits6 : waitsOk laws_eqPageS.T6.2 laws_eqPageS.B6 = true := by kernel_rfl
set_option maxHeartbeats 8000000 in
set_option maxRecDepth 100000 in
theorem laws_eqPageS.calls (k : Nat) (A0 : Option Addr) (c0 : Nat) (l0 : List (S90)) (A1 : Option Addr) (c1 : Nat) (l1 : List (S90)) (r : Bool) (w : World) (hr0 : Kd.C k90 w A0 l0.length l0) (hc0 : l0.length ≤ c0) (hr1 : Kd.C k90 w A1 l1.length l1) (hc1 : l1.length ≤ c1) (h : laws_eqPageS.f k l0 l1 = some r) :
    Calls Try.prog 79 #[.slice A0 l0.length c0, .slice A1 l1.length c1] w fun e w' => e = .returned (.bool r) ∧ Below w.heap.size w w' := by
  have hu90 := Try.underlying90
  have HR0 := Aside0.mk hr0
  have HC0 := Aside0.mk hc0
  clear hr0 hc0
  have HR1 := Aside0.mk hr1
  have HC1 := Aside0.mk hc1
  clear hr1 hc1
  have HB := Aside0.mk (Below.refl w.heap.size w)
  have H : (if (l0.length : Int) = (l1.length : Int) then (laws_eqPageS.l0 k l0 l1 0) else (some false)) = some r := h
  clear h
  by_cases c3 : (l0.length : Int) = (l1.length : Int)
  · rw [if_pos c3] at H
    have c3b0 : ((l0.length : Int) == (l1.length : Int)) = true := beq_iff_eq.mpr c3
    have c3b1 : ((l0.length : Int) != (l1.length : Int)) = false := bne_eq_false_iff_eq.mpr c3
    have c3b2 : (l0.length == l1.length) = true := by first | simpa using c3 | (simp at c3 ⊢; omega)
    clear c3
    have H' := Aside0.mk H
    clear H
    go_enter Try.func79, Try.ntmps79
    go_wp2
    go_loopg [5] k (fun kq v5 w' => ∃ (x5_1 : Int), v5 = .int .i64 x5_1 ∧ Aside0 (laws_eqPageS.l0 kq l0 l1 x5_1 = some r) ∧ Aside0 (kq ≤ k) ∧ Aside0 (Below w.heap.size w w'))
    case atStart => exact ⟨(0), (by first | rfl | (simp; done) | (simp [*]; done)), H', ⟨Nat.le_refl _⟩, ⟨by repeat (first | (with_reducible first | exact HB.out | apply below_alloc | apply pw_below_drewN | apply below_drew1) | exact HB.out)⟩⟩
    case round =>
      clear H'
      try clear c1
      try clear p2
      try clear c3
      try clear c3b0
      try clear c3b1
      try clear c3b2
      obtain ⟨x5_1, rfl, HA, HK1, HB⟩ := hrel
      cases gk with
      | zero => exact absurd HA.out (by simp [laws_eqPageS.l0])
      | succ k1 =>
        have H := HA.out
        clear HA
        simp only [laws_eqPageS.l0] at H
        by_cases c4 : x5_1 < (l0.length : Int)
        · rw [if_pos c4] at H
          have c4b0 : decide (x5_1 < (l0.length : Int)) = true := decide_eq_true c4
          clear c4
          by_cases c5 : 0 ≤ x5_1
          · rw [if_pos c5] at H
            have c5b0 : decide (0 ≤ x5_1) = true := decide_eq_true c5
            clear c5
            by_cases c6 : x5_1 < (l1.length : Int)
            · rw [if_pos c6] at H
              have c6b0 : decide (x5_1 < (l1.length : Int)) = true := decide_eq_true c6
              clear c6
              replace H := Option.bind_eq_some_iff.mp H
              obtain ⟨t370, A70, H⟩ := H
              replace H : (if t370 = true then (laws_eqPageS.l0 k1 l0 l1 (wrap64 (x5_1 + 1))) else (some false)) = some r := H
              have A7 := Aside0.mk A70
              clear A70
              by_cases c8 : t370 = true
              · subst c8
                have H1 : (laws_eqPageS.l0 k1 l0 l1 (wrap64 (x5_1 + 1))) = some r := by rw [if_pos rfl] at H; exact H
                clear H
                have H := H1
                clear H1
                have H' := Aside0.mk H
                clear H
                try go_wp2
                have n0_ := Aside0.mk (below_drew1 HB.out)
                clear HB
                have HB := n0_
                clear n0_
                have p368 : 0 ≤ (x5_1 : Int) := of_decide_eq_true (by first | (with_reducible assumption) | assumption)
                have q368 : x5_1 < (l0.length : Int) := of_decide_eq_true (by first | (with_reducible assumption) | assumption)
                obtain ⟨ad368, A368_2, c368_2, e368, hx368_0, hx368_1, hx368_2, hl368_2, hi368_2⟩ := at_T90 HR0.out x5_1 p368 q368
                have hw368_2 := hx368_2
                have hw368_1 := hx368_1
                have hw368_0 := hx368_0
                cases e368
                replace hx368_0 := (HB.out.cell (World.block_lt_of_cell? w _ hx368_0)).trans hx368_0
                replace hx368_1 := (HB.out.cell (World.block_lt_of_cell? w _ hx368_1)).trans hx368_1
                replace hx368_2 := (HB.out.cell (World.block_lt_of_cell? w _ hx368_2)).trans hx368_2
                have HR368_2 := Aside0.mk hi368_2
                have HC368_2 := Aside0.mk hl368_2
                clear hi368_2 hl368_2
                replace p368 := eq_true p368
                replace q368 := eq_true q368
                have p369 : 0 ≤ (x5_1 : Int) := of_decide_eq_true (by first | (with_reducible assumption) | assumption)
                have q369 : x5_1 < (l1.length : Int) := of_decide_eq_true (by first | (with_reducible assumption) | assumption)
                obtain ⟨ad369, A369_2, c369_2, e369, hx369_0, hx369_1, hx369_2, hl369_2, hi369_2⟩ := at_T90 HR1.out x5_1 p369 q369
                have hw369_2 := hx369_2
                have hw369_1 := hx369_1
                have hw369_0 := hx369_0
                cases e369
                replace hx369_0 := (HB.out.cell (World.block_lt_of_cell? w _ hx369_0)).trans hx369_0
                replace hx369_1 := (HB.out.cell (World.block_lt_of_cell? w _ hx369_1)).trans hx369_1
                replace hx369_2 := (HB.out.cell (World.block_lt_of_cell? w _ hx369_2)).trans hx369_2
                have HR369_2 := Aside0.mk hi369_2
                have HC369_2 := Aside0.mk hl369_2
                clear hi369_2 hl369_2
                replace p369 := eq_true p369
                replace q369 := eq_true q369
                refine start_ (n := 10) (S := fun w' => w'.cell? (ad368.add ((x5_1).toNat * 3)) = some (.bool ((rd_T90 l0 x5_1).f0)) ∧ w'.cell? ⟨(ad368.add ((x5_1).toNat * 3)).block, (ad368.add ((x5_1).toNat * 3)).off + 1, none⟩ = some (.bool ((rd_T90 l0 x5_1).f1.f0)) ∧ w'.cell? ⟨(ad368.add ((x5_1).toNat * 3)).block, (ad368.add ((x5_1).toNat * 3)).off + 2, none⟩ = some (.slice A368_2 ((rd_T90 l0 x5_1).f1.f1).length c368_2) ∧ w'.cell? (ad369.add ((x5_1).toNat * 3)) = some (.bool ((rd_T90 l1 x5_1).f0)) ∧ w'.cell? ⟨(ad369.add ((x5_1).toNat * 3)).block, (ad369.add ((x5_1).toNat * 3)).off + 1, none⟩ = some (.bool ((rd_T90 l1 x5_1).f1.f0)) ∧ w'.cell? ⟨(ad369.add ((x5_1).toNat * 3)).block, (ad369.add ((x5_1).toNat * 3)).off + 2, none⟩ = some (.slice A369_2 ((rd_T90 l1 x5_1).f1.f1).length c369_2)) (ds := []) #[false, false, false, false, false, false, false, false, false, false] (by kernel_rfl) rfl rfl ⟨((HB.out.cell (World.block_lt_of_cell? w _ hw368_0)).trans hw368_0), ((HB.out.cell (World.block_lt_of_cell? w _ hw368_1)).trans hw368_1), ((HB.out.cell (World.block_lt_of_cell? w _ hw368_2)).trans hw368_2), ((HB.out.cell (World.block_lt_of_cell? w _ hw369_0)).trans hw369_0), ((HB.out.cell (World.block_lt_of_cell? w _ hw369_1)).trans hw369_1), ((HB.out.cell (World.block_lt_of_cell? w _ hw369_2)).trans hw369_2)⟩ (fun hHeld => ?_); refine with_tabW laws_eqPageS.tab6 laws_eqPageS.bits6 (fun HT_ HW_ => ?_)
                generalize wr.drew = w9 at HB HR368_2 HR369_2 hx368_0 hx368_1 hx368_2 hx369_0 hx369_1 hx369_2 hHeld ⊢
                refine pure_ (i := 0) (N := some 17) (v := ?_) (a' := ?_) #[true, false, false, false, false, false, false, false, false, false] rfl rfl (any_of HT_.out (by kernel_rfl)) (fun _ _ _ h => h) (Or.inl ⟨by rfl, ?_⟩) ?_ ?_
                rotate_left
                · intro w'
                  go_simp
                  with_reducible rfl
                rotate_left
                · simp only [Act.put, List.setIfInBounds_toArray, List.set_cons_zero, List.set_cons_succ, i64_w, i32_w]
                  rfl
                refine pure_ (i := 1) (N := some 18) (v := ?_) (a' := ?_) #[true, true, false, false, false, false, false, false, false, false] rfl rfl (any_of HT_.out (by kernel_rfl)) (fun _ _ _ h => h) (Or.inl ⟨by rfl, ?_⟩) ?_ ?_
                rotate_left
                · intro w'
                  go_simp
                  with_reducible rfl
                rotate_left
                · simp only [Act.put, List.setIfInBounds_toArray, List.set_cons_zero, List.set_cons_succ, i64_w, i32_w]
                  rfl
                refine pure_ (i := 2) (N := some 19) (v := ?_) (a' := ?_) #[true, true, true, false, false, false, false, false, false, false] rfl rfl (any_of HT_.out (by kernel_rfl)) (fun _ _ _ h => h) (Or.inl ⟨by rfl, ?_⟩) ?_ ?_
                rotate_left
                · intro w'
                  go_simp
                  with_reducible rfl
                rotate_left
                · simp only [Act.put, List.setIfInBounds_toArray, List.set_cons_zero, List.set_cons_succ, i64_w, i32_w]
                  rfl
                refine pure_ (i := 4) (N := some 21) (v := ?_) (a' := ?_) #[true, true, true, false, true, false, false, false, false, false] rfl rfl (any_of HT_.out (by kernel_rfl)) (fun _ _ _ h => h) (Or.inl ⟨by rfl, ?_⟩) ?_ ?_
                rotate_left
                · intro w'
                  go_simp
                  with_reducible rfl
                rotate_left
                · simp only [Act.put, List.setIfInBounds_toArray, List.set_cons_zero, List.set_cons_succ, i64_w, i32_w]
                  rfl
                refine pure_ (i := 5) (N := some 22) (v := ?_) (a' := ?_) #[true, true, true, false, true, true, false, false, false, false] rfl rfl (any_of HT_.out (by kernel_rfl)) (fun _ _ _ h => h) (Or.inl ⟨by rfl, ?_⟩) ?_ ?_
                rotate_left
                · intro w'
                  go_simp
                  with_reducible rfl
                rotate_left
                · simp only [Act.put, List.setIfInBounds_toArray, List.set_cons_zero, List.set_cons_succ, i64_w, i32_w]
                  rfl
                refine pure_ (i := 6) (N := some 23) (v := ?_) (a' := ?_) #[true, true, true, false, true, true, true, false, false, false] rfl rfl (any_of HT_.out (by kernel_rfl)) (fun _ _ _ h => h) (Or.inl ⟨by rfl, ?_⟩) ?_ ?_
                rotate_left
                · intro w'
                  go_simp
                  with_reducible rfl
                rotate_left
                · simp only [Act.put, List.setIfInBounds_toArray, List.set_cons_zero, List.set_cons_succ, i64_w, i32_w]
                  rfl
                refine take_ (i := 3) (N := some 20) (v := ?_) (a' := ?_) #[true, true, true, true, true, true, true, false, false, false] rfl rfl (take_ofW HT_.out HW_.out (by kernel_rfl)) (fun _ _ _ h => h) (Or.inl ⟨by rfl, ?_⟩) hHeld ?_ ?_
                rotate_left
                · rintro w' ⟨s0, s1, s2, s3, s4, s5⟩
                  go_simp
                  with_reducible rfl
                rotate_left
                · simp only [Act.put, List.setIfInBounds_toArray, List.set_cons_zero, List.set_cons_succ, i64_w, i32_w]
                  rfl
                refine take_ (i := 7) (N := some 24) (v := ?_) (a' := ?_) #[true, true, true, true, true, true, true, true, false, false] rfl rfl (take_ofW HT_.out HW_.out (by kernel_rfl)) (fun _ _ _ h => h) (Or.inl ⟨by rfl, ?_⟩) hHeld ?_ ?_
                rotate_left
                · rintro w' ⟨s0, s1, s2, s3, s4, s5⟩
                  go_simp
                  with_reducible rfl
                rotate_left
                · simp only [Act.put, List.setIfInBounds_toArray, List.set_cons_zero, List.set_cons_succ, i64_w, i32_w]
                  rfl
                refine one_ (i := 8) (N := some 25) #[true, true, true, true, true, true, true, true, true, false] rfl rfl (one_of HT_.out (by kernel_rfl)) (by decide) (fun K hK => ?_)
                refine goes_ Try.func121 (by kernel_rfl) rfl #[.agg #[.bool ((rd_T90 l0 x5_1).f0), .bool ((rd_T90 l0 x5_1).f1.f0), .slice A368_2 ((rd_T90 l0 x5_1).f1.f1).length c368_2], .agg #[.bool ((rd_T90 l1 x5_1).f0), .bool ((rd_T90 l1 x5_1).f1.f0), .slice A369_2 ((rd_T90 l1 x5_1).f1.f1).length c369_2]] (by rfl) rfl rfl (by (try simp only [List.map_toArray, List.map_cons, List.map_nil]); first | done | rfl | (simp only [List.length_drop, List.length_take]; rfl)) ?_
                with_reducible refine (laws_eqPage.calls k1 ((rd_T90 l0 x5_1).f0) ((rd_T90 l0 x5_1).f1.f0) _ _ ((rd_T90 l0 x5_1).f1.f1) ((rd_T90 l1 x5_1).f0) ((rd_T90 l1 x5_1).f1.f0) _ _ ((rd_T90 l1 x5_1).f1.f1) true _ ?side1 ?side2 ?side3 ?side4 A7.out).mono ?_
                (case side1 => repeat (first | exact (Kd.C_below HR368_2.out HB.out) | (with_reducible refine Kd.C_alloc ?_ _) | (with_reducible refine Kd.C_drewN ?_ _) | (with_reducible refine Kd.C_drew ?_)))
                (case side2 => exact HC368_2.out)
                (case side3 => repeat (first | exact (Kd.C_below HR369_2.out HB.out) | (with_reducible refine Kd.C_alloc ?_ _) | (with_reducible refine Kd.C_drewN ?_ _) | (with_reducible refine Kd.C_drew ?_)))
                (case side4 => exact HC369_2.out)
                rintro e w10 ⟨rfl, hb⟩
                refine ⟨_, rfl, ?_⟩
                have n0_ := Aside0.mk (below_step (by repeat (first | (with_reducible first | exact HB.out | apply below_alloc | apply pw_below_drewN | apply below_drew1) | exact HB.out)) hb)
                clear HB
                have HB := n0_
                clear n0_
                (try clear hb)
                (try clear hb2)
                (try clear hk)
                (try clear hi)
                refine hK.out _ _ ⟨((HB.out.cell (World.block_lt_of_cell? w _ hw368_0)).trans hw368_0), ((HB.out.cell (World.block_lt_of_cell? w _ hw368_1)).trans hw368_1), ((HB.out.cell (World.block_lt_of_cell? w _ hw368_2)).trans hw368_2), ((HB.out.cell (World.block_lt_of_cell? w _ hw369_0)).trans hw369_0), ((HB.out.cell (World.block_lt_of_cell? w _ hw369_1)).trans hw369_1), ((HB.out.cell (World.block_lt_of_cell? w _ hw369_2)).trans hw369_2)⟩ (fun hHeld => ?_)
                clear hK K
                refine norm_ (a' := ?_) ?_ ?_
                rotate_left
                · show Act.put _ (some 25) _ = _
                  simp only [Act.put, List.setIfInBounds_toArray, List.set_cons_zero, List.set_cons_succ, i64_w, i32_w]
                  rfl
                refine pure_ (i := 9) (N := some 26) (v := ?_) (a' := ?_) #[true, true, true, true, true, true, true, true, true, true] rfl rfl (any_of HT_.out (by kernel_rfl)) (fun _ _ _ h => h) (Or.inl ⟨by rfl, ?_⟩) ?_ ?_
                rotate_left
                · intro w'
                  go_simp
                  with_reducible rfl
                rotate_left
                · simp only [Act.put, List.setIfInBounds_toArray, List.set_cons_zero, List.set_cons_succ, i64_w, i32_w]
                  rfl
                refine done_ (done_of HT_.out (by kernel_rfl)) ?_
                try go_wp2
                go_roundg k1
                case measure => have := HK1.out; omega
                case rel => exact ⟨(wrap64 (x5_1 + 1)), (by first | rfl | (simp; done) | (simp [*]; done)), H', ⟨by have := HK1.out; omega⟩, ⟨by repeat (first | (with_reducible first | exact HB.out | apply below_alloc | apply pw_below_drewN | apply below_drew1) | exact HB.out)⟩⟩
              · replace c8 := Bool.eq_false_iff.mpr c8
                subst c8
                have H1 : (some false) = some r := by rw [if_neg (show ¬ (false = true) by decide)] at H; exact H
                clear H
                have H := H1
                clear H1
                obtain rfl := Option.some.inj H
                try go_wp2
                have n0_ := Aside0.mk (below_drew1 HB.out)
                clear HB
                have HB := n0_
                clear n0_
                have p368 : 0 ≤ (x5_1 : Int) := of_decide_eq_true (by first | (with_reducible assumption) | assumption)
                have q368 : x5_1 < (l0.length : Int) := of_decide_eq_true (by first | (with_reducible assumption) | assumption)
                obtain ⟨ad368, A368_2, c368_2, e368, hx368_0, hx368_1, hx368_2, hl368_2, hi368_2⟩ := at_T90 HR0.out x5_1 p368 q368
                have hw368_2 := hx368_2
                have hw368_1 := hx368_1
                have hw368_0 := hx368_0
                cases e368
                replace hx368_0 := (HB.out.cell (World.block_lt_of_cell? w _ hx368_0)).trans hx368_0
                replace hx368_1 := (HB.out.cell (World.block_lt_of_cell? w _ hx368_1)).trans hx368_1
                replace hx368_2 := (HB.out.cell (World.block_lt_of_cell? w _ hx368_2)).trans hx368_2
                have HR368_2 := Aside0.mk hi368_2
                have HC368_2 := Aside0.mk hl368_2
                clear hi368_2 hl368_2
                replace p368 := eq_true p368
                replace q368 := eq_true q368
                have p369 : 0 ≤ (x5_1 : Int) := of_decide_eq_true (by first | (with_reducible assumption) | assumption)
                have q369 : x5_1 < (l1.length : Int) := of_decide_eq_true (by first | (with_reducible assumption) | assumption)
                obtain ⟨ad369, A369_2, c369_2, e369, hx369_0, hx369_1, hx369_2, hl369_2, hi369_2⟩ := at_T90 HR1.out x5_1 p369 q369
                have hw369_2 := hx369_2
                have hw369_1 := hx369_1
                have hw369_0 := hx369_0
                cases e369
                replace hx369_0 := (HB.out.cell (World.block_lt_of_cell? w _ hx369_0)).trans hx369_0
                replace hx369_1 := (HB.out.cell (World.block_lt_of_cell? w _ hx369_1)).trans hx369_1
                replace hx369_2 := (HB.out.cell (World.block_lt_of_cell? w _ hx369_2)).trans hx369_2
                have HR369_2 := Aside0.mk hi369_2
                have HC369_2 := Aside0.mk hl369_2
                clear hi369_2 hl369_2
                replace p369 := eq_true p369
                replace q369 := eq_true q369
                refine start_ (n := 10) (S := fun w' => w'.cell? (ad368.add ((x5_1).toNat * 3)) = some (.bool ((rd_T90 l0 x5_1).f0)) ∧ w'.cell? ⟨(ad368.add ((x5_1).toNat * 3)).block, (ad368.add ((x5_1).toNat * 3)).off + 1, none⟩ = some (.bool ((rd_T90 l0 x5_1).f1.f0)) ∧ w'.cell? ⟨(ad368.add ((x5_1).toNat * 3)).block, (ad368.add ((x5_1).toNat * 3)).off + 2, none⟩ = some (.slice A368_2 ((rd_T90 l0 x5_1).f1.f1).length c368_2) ∧ w'.cell? (ad369.add ((x5_1).toNat * 3)) = some (.bool ((rd_T90 l1 x5_1).f0)) ∧ w'.cell? ⟨(ad369.add ((x5_1).toNat * 3)).block, (ad369.add ((x5_1).toNat * 3)).off + 1, none⟩ = some (.bool ((rd_T90 l1 x5_1).f1.f0)) ∧ w'.cell? ⟨(ad369.add ((x5_1).toNat * 3)).block, (ad369.add ((x5_1).toNat * 3)).off + 2, none⟩ = some (.slice A369_2 ((rd_T90 l1 x5_1).f1.f1).length c369_2)) (ds := []) #[false, false, false, false, false, false, false, false, false, false] (by kernel_rfl) rfl rfl ⟨((HB.out.cell (World.block_lt_of_cell? w _ hw368_0)).trans hw368_0), ((HB.out.cell (World.block_lt_of_cell? w _ hw368_1)).trans hw368_1), ((HB.out.cell (World.block_lt_of_cell? w _ hw368_2)).trans hw368_2), ((HB.out.cell (World.block_lt_of_cell? w _ hw369_0)).trans hw369_0), ((HB.out.cell (World.block_lt_of_cell? w _ hw369_1)).trans hw369_1), ((HB.out.cell (World.block_lt_of_cell? w _ hw369_2)).trans hw369_2)⟩ (fun hHeld => ?_); refine with_tabW laws_eqPageS.tab6 laws_eqPageS.bits6 (fun HT_ HW_ => ?_)
                generalize wr.drew = w11 at HB HR368_2 HR369_2 hx368_0 hx368_1 hx368_2 hx369_0 hx369_1 hx369_2 hHeld ⊢
                refine pure_ (i := 0) (N := some 17) (v := ?_) (a' := ?_) #[true, false, false, false, false, false, false, false, false, false] rfl rfl (any_of HT_.out (by kernel_rfl)) (fun _ _ _ h => h) (Or.inl ⟨by rfl, ?_⟩) ?_ ?_
                rotate_left
                · intro w'
                  go_simp
                  with_reducible rfl
                rotate_left
                · simp only [Act.put, List.setIfInBounds_toArray, List.set_cons_zero, List.set_cons_succ, i64_w, i32_w]
                  rfl
                refine pure_ (i := 1) (N := some 18) (v := ?_) (a' := ?_) #[true, true, false, false, false, false, false, false, false, false] rfl rfl (any_of HT_.out (by kernel_rfl)) (fun _ _ _ h => h) (Or.inl ⟨by rfl, ?_⟩) ?_ ?_
                rotate_left
                · intro w'
                  go_simp
                  with_reducible rfl
                rotate_left
                · simp only [Act.put, List.setIfInBounds_toArray, List.set_cons_zero, List.set_cons_succ, i64_w, i32_w]
                  rfl
                refine pure_ (i := 2) (N := some 19) (v := ?_) (a' := ?_) #[true, true, true, false, false, false, false, false, false, false] rfl rfl (any_of HT_.out (by kernel_rfl)) (fun _ _ _ h => h) (Or.inl ⟨by rfl, ?_⟩) ?_ ?_
                rotate_left
                · intro w'
                  go_simp
                  with_reducible rfl
                rotate_left
                · simp only [Act.put, List.setIfInBounds_toArray, List.set_cons_zero, List.set_cons_succ, i64_w, i32_w]
                  rfl
                refine pure_ (i := 4) (N := some 21) (v := ?_) (a' := ?_) #[true, true, true, false, true, false, false, false, false, false] rfl rfl (any_of HT_.out (by kernel_rfl)) (fun _ _ _ h => h) (Or.inl ⟨by rfl, ?_⟩) ?_ ?_
                rotate_left
                · intro w'
                  go_simp
                  with_reducible rfl
                rotate_left
                · simp only [Act.put, List.setIfInBounds_toArray, List.set_cons_zero, List.set_cons_succ, i64_w, i32_w]
                  rfl
                refine pure_ (i := 5) (N := some 22) (v := ?_) (a' := ?_) #[true, true, true, false, true, true, false, false, false, false] rfl rfl (any_of HT_.out (by kernel_rfl)) (fun _ _ _ h => h) (Or.inl ⟨by rfl, ?_⟩) ?_ ?_
                rotate_left
                · intro w'
                  go_simp
                  with_reducible rfl
                rotate_left
                · simp only [Act.put, List.setIfInBounds_toArray, List.set_cons_zero, List.set_cons_succ, i64_w, i32_w]
                  rfl
                refine pure_ (i := 6) (N := some 23) (v := ?_) (a' := ?_) #[true, true, true, false, true, true, true, false, false, false] rfl rfl (any_of HT_.out (by kernel_rfl)) (fun _ _ _ h => h) (Or.inl ⟨by rfl, ?_⟩) ?_ ?_
                rotate_left
                · intro w'
                  go_simp
                  with_reducible rfl
                rotate_left
                · simp only [Act.put, List.setIfInBounds_toArray, List.set_cons_zero, List.set_cons_succ, i64_w, i32_w]
                  rfl
                refine take_ (i := 3) (N := some 20) (v := ?_) (a' := ?_) #[true, true, true, true, true, true, true, false, false, false] rfl rfl (take_ofW HT_.out HW_.out (by kernel_rfl)) (fun _ _ _ h => h) (Or.inl ⟨by rfl, ?_⟩) hHeld ?_ ?_
                rotate_left
                · rintro w' ⟨s0, s1, s2, s3, s4, s5⟩
                  go_simp
                  with_reducible rfl
                rotate_left
                · simp only [Act.put, List.setIfInBounds_toArray, List.set_cons_zero, List.set_cons_succ, i64_w, i32_w]
                  rfl
                refine take_ (i := 7) (N := some 24) (v := ?_) (a' := ?_) #[true, true, true, true, true, true, true, true, false, false] rfl rfl (take_ofW HT_.out HW_.out (by kernel_rfl)) (fun _ _ _ h => h) (Or.inl ⟨by rfl, ?_⟩) hHeld ?_ ?_
                rotate_left
                · rintro w' ⟨s0, s1, s2, s3, s4, s5⟩
                  go_simp
                  with_reducible rfl
                rotate_left
                · simp only [Act.put, List.setIfInBounds_toArray, List.set_cons_zero, List.set_cons_succ, i64_w, i32_w]
                  rfl
                refine one_ (i := 8) (N := some 25) #[true, true, true, true, true, true, true, true, true, false] rfl rfl (one_of HT_.out (by kernel_rfl)) (by decide) (fun K hK => ?_)
                refine goes_ Try.func121 (by kernel_rfl) rfl #[.agg #[.bool ((rd_T90 l0 x5_1).f0), .bool ((rd_T90 l0 x5_1).f1.f0), .slice A368_2 ((rd_T90 l0 x5_1).f1.f1).length c368_2], .agg #[.bool ((rd_T90 l1 x5_1).f0), .bool ((rd_T90 l1 x5_1).f1.f0), .slice A369_2 ((rd_T90 l1 x5_1).f1.f1).length c369_2]] (by rfl) rfl rfl (by (try simp only [List.map_toArray, List.map_cons, List.map_nil]); first | done | rfl | (simp only [List.length_drop, List.length_take]; rfl)) ?_
                with_reducible refine (laws_eqPage.calls k1 ((rd_T90 l0 x5_1).f0) ((rd_T90 l0 x5_1).f1.f0) _ _ ((rd_T90 l0 x5_1).f1.f1) ((rd_T90 l1 x5_1).f0) ((rd_T90 l1 x5_1).f1.f0) _ _ ((rd_T90 l1 x5_1).f1.f1) false _ ?side1 ?side2 ?side3 ?side4 A7.out).mono ?_
                (case side1 => repeat (first | exact (Kd.C_below HR368_2.out HB.out) | (with_reducible refine Kd.C_alloc ?_ _) | (with_reducible refine Kd.C_drewN ?_ _) | (with_reducible refine Kd.C_drew ?_)))
                (case side2 => exact HC368_2.out)
                (case side3 => repeat (first | exact (Kd.C_below HR369_2.out HB.out) | (with_reducible refine Kd.C_alloc ?_ _) | (with_reducible refine Kd.C_drewN ?_ _) | (with_reducible refine Kd.C_drew ?_)))
                (case side4 => exact HC369_2.out)
                rintro e w12 ⟨rfl, hb⟩
                refine ⟨_, rfl, ?_⟩
                have n0_ := Aside0.mk (below_step (by repeat (first | (with_reducible first | exact HB.out | apply below_alloc | apply pw_below_drewN | apply below_drew1) | exact HB.out)) hb)
                clear HB
                have HB := n0_
                clear n0_
                (try clear hb)
                (try clear hb2)
                (try clear hk)
                (try clear hi)
                refine hK.out _ _ ⟨((HB.out.cell (World.block_lt_of_cell? w _ hw368_0)).trans hw368_0), ((HB.out.cell (World.block_lt_of_cell? w _ hw368_1)).trans hw368_1), ((HB.out.cell (World.block_lt_of_cell? w _ hw368_2)).trans hw368_2), ((HB.out.cell (World.block_lt_of_cell? w _ hw369_0)).trans hw369_0), ((HB.out.cell (World.block_lt_of_cell? w _ hw369_1)).trans hw369_1), ((HB.out.cell (World.block_lt_of_cell? w _ hw369_2)).trans hw369_2)⟩ (fun hHeld => ?_)
                clear hK K
                refine norm_ (a' := ?_) ?_ ?_
                rotate_left
                · show Act.put _ (some 25) _ = _
                  simp only [Act.put, List.setIfInBounds_toArray, List.set_cons_zero, List.set_cons_succ, i64_w, i32_w]
                  rfl
                refine pure_ (i := 9) (N := some 26) (v := ?_) (a' := ?_) #[true, true, true, true, true, true, true, true, true, true] rfl rfl (any_of HT_.out (by kernel_rfl)) (fun _ _ _ h => h) (Or.inl ⟨by rfl, ?_⟩) ?_ ?_
                rotate_left
                · intro w'
                  go_simp
                  with_reducible rfl
                rotate_left
                · simp only [Act.put, List.setIfInBounds_toArray, List.set_cons_zero, List.set_cons_succ, i64_w, i32_w]
                  rfl
                refine done_ (done_of HT_.out (by kernel_rfl)) ?_
                try go_wp2
                go_ret
                exact ⟨by first | rfl | (simp [errW_none, errW_some] <;> rfl) | (simp [*, errW_none, errW_some] <;> rfl), by repeat (first | (with_reducible first | exact HB.out | apply below_alloc | apply pw_below_drewN | apply below_drew1) | exact HB.out)⟩
            · rw [if_neg c6] at H
              exact absurd H (by simp)
          · rw [if_neg c5] at H
            exact absurd H (by simp)
        · rw [if_neg c4] at H
          have c4b0 : decide (x5_1 < (l0.length : Int)) = false := decide_eq_false c4
          clear c4
          obtain rfl := Option.some.inj H
          go_wp2
          go_ret
          exact ⟨by first | rfl | (simp [errW_none, errW_some] <;> rfl) | (simp [*, errW_none, errW_some] <;> rfl), by repeat (first | (with_reducible first | exact HB.out | apply below_alloc | apply pw_below_drewN | apply below_drew1) | exact HB.out)⟩
  · rw [if_neg c3] at H
    have c3b0 : ((l0.length : Int) == (l1.length : Int)) = false := beq_eq_false_iff_ne.mpr c3
    have c3b1 : ((l0.length : Int) != (l1.length : Int)) = true := bne_iff_ne.mpr c3
    have c3b2 : (l0.length == l1.length) = false := by first | simpa using c3 | (simp at c3 ⊢; omega)
    obtain rfl := Option.some.inj H
    go_enter Try.func79, Try.ntmps79
    go_wp2
    go_ret
    exact ⟨by first | rfl | (simp [errW_none, errW_some] <;> rfl) | (simp [*, errW_none, errW_some] <;> rfl), by repeat (first | (with_reducible first | exact HB.out | apply below_alloc | apply pw_below_drewN | apply below_drew1) | exact HB.out)⟩

end Go.Proofs.Ytngjaajcdbodeaa.All

namespace Go.Proofs.Ytngjaajcdbodeaa.All
open Go.RowKit Go.Proofs.YtngjaajcdbodeaaW.PrintWords Go.Proofs.YtngjaajcdbodeaaW.PrintLast Go.Proofs.YtngjaajcdbodeaaW.PrintMore
attribute [local go_sem] max2_int min2_int max_two min_two max_three min_three max_four min_four   -- for this text's walks alone
set_option linter.unusedVariables false
set_option linter.unusedSimpArgs false

/-! ### laws_eqBook: function 29 -/
def laws_eqBook.f (k : Nat) (a0_0 : Int) (l0_1 : List (S90)) (a1_0 : Int) (l1_1 : List (S90)) : Option (Bool) := if a0_0 = a1_0 then ((laws_eqPageS.f k l0_1 l1_1).bind fun t373 => (if t373 = true then (some true) else (some false))) else (some false)
theorem laws_eqBook.mono : ∀ a0 a1 a2 a3 k, LeO (laws_eqBook.f k a0 a1 a2 a3) (laws_eqBook.f (k + 1) a0 a1 a2 a3) := by
  intro a0 a1 a2 a3 k
  unfold laws_eqBook.f
  repeat' first
      | (with_reducible exact laws_eqPageS.mono _ _ _)
      | (with_reducible exact LeO.refl _)
      | (with_reducible exact LeO.none _)
      | (with_reducible refine LeO.ite ?_ ?_)
      | (with_reducible refine LeO.bind ?_ (fun _ => ?_))
      | exact laws_eqPageS.mono _ _ _
      | exact LeO.none _
      | refine LeO.ite ?_ ?_
      | refine LeO.bind ?_ (fun _ => ?_)
set_option maxHeartbeats 8000000 in
set_option maxRecDepth 100000 in
theorem laws_eqBook.calls (k : Nat) (a0_0 : Int) (A0_1 : Option Addr) (c0_1 : Nat) (l0_1 : List (S90)) (a1_0 : Int) (A1_1 : Option Addr) (c1_1 : Nat) (l1_1 : List (S90)) (r : Bool) (w : World) (hr0_1 : Kd.C k90 w A0_1 l0_1.length l0_1) (hc0_1 : l0_1.length ≤ c0_1) (hr1_1 : Kd.C k90 w A1_1 l1_1.length l1_1) (hc1_1 : l1_1.length ≤ c1_1) (h : laws_eqBook.f k a0_0 l0_1 a1_0 l1_1 = some r) :
    Calls Try.prog 29 #[.agg #[.int .i64 a0_0, .slice A0_1 l0_1.length c0_1], .agg #[.int .i64 a1_0, .slice A1_1 l1_1.length c1_1]] w fun e w' => e = .returned (.bool r) ∧ Below w.heap.size w w' := by
  have hu49 := Try.underlying49
  have HR0_1 := Aside0.mk hr0_1
  have HC0_1 := Aside0.mk hc0_1
  clear hr0_1 hc0_1
  have HR1_1 := Aside0.mk hr1_1
  have HC1_1 := Aside0.mk hc1_1
  clear hr1_1 hc1_1
  have HB := Aside0.mk (Below.refl w.heap.size w)
  have H : (if a0_0 = a1_0 then ((laws_eqPageS.f k l0_1 l1_1).bind fun t373 => (if t373 = true then (some true) else (some false))) else (some false)) = some r := h
  clear h
  by_cases c3 : a0_0 = a1_0
  · rw [if_pos c3] at H
    have c3b0 : (a0_0 == a1_0) = true := beq_iff_eq.mpr c3
    have c3b1 : (a0_0 != a1_0) = false := bne_eq_false_iff_eq.mpr c3
    clear c3
    replace H := Option.bind_eq_some_iff.mp H
    obtain ⟨t373, A40, H⟩ := H
    replace H : (if t373 = true then (some true) else (some false)) = some r := H
    have A4 := Aside0.mk A40
    clear A40
    by_cases c5 : t373 = true
    · subst c5
      have H1 : (some true) = some r := by rw [if_pos rfl] at H; exact H
      clear H
      have H := H1
      clear H1
      obtain rfl := Option.some.inj H
      go_enter Try.func29, Try.ntmps29
      go_wp2_with (first | ((with_reducible refine gate_dst (N := 2) rfl ?_); refine box_event ?hg (N := 2) ?hd (cs := #[.int .i64 a0_0, .slice A0_1 l0_1.length c0_1]) (t := 49) ?hr ?_; (case hd => rfl); (case hg => rfl); (case hr => first | (go_simp; done) | (go_simp; rfl)); intro gb371 hg w6 hbox hb; have n0_ := Aside0.mk (below_step (by repeat (first | (with_reducible first | exact HB.out | apply below_alloc | apply pw_below_drewN | apply below_drew1) | exact HB.out)) hb); have n1_ := Aside0.mk (hbox); have n2_ := Aside0.mk ((by rw [hg]; exact (below_size (by repeat (first | (with_reducible first | exact HB.out | apply below_alloc | apply pw_below_drewN | apply below_drew1) | exact HB.out))) : w.heap.size ≤ gb371)); have n3_ := Aside0.mk ((by rw [hg]; exact (below_size (by repeat (first | (with_reducible first | exact HB.out | apply below_alloc | apply pw_below_drewN | apply below_drew1) | exact HB.out))) : w.heap.size ≤ gb371)); clear HB; have HB := n0_; have BK371 := n1_; have GW371 := n2_; have GE371 := n3_; clear n0_ n1_ n2_ n3_; clear hb hbox hg) | ((with_reducible refine gate_dst (N := 3) rfl ?_); refine box_event ?hg (N := 3) ?hd (cs := #[.int .i64 a1_0, .slice A1_1 l1_1.length c1_1]) (t := 49) ?hr ?_; (case hd => rfl); (case hg => rfl); (case hr => first | (go_simp; done) | (go_simp; rfl)); intro gb372 hg w7 hbox hb; have n0_ := Aside0.mk (blk_below (g := gb371) (o := .cells #[.int .i64 a0_0, .slice A0_1 l0_1.length c0_1] 49 (0, 0)) (by (with_reducible repeat (first | refine blk_drewN ?_ _ | refine blk_drew ?_ | refine blk_alloc ?_ _)); exact BK371.out) hb); have n1_ := Aside0.mk (below_step (by repeat (first | (with_reducible first | exact HB.out | apply below_alloc | apply pw_below_drewN | apply below_drew1 | refine below_set ?_ GE371.out) | exact HB.out)) hb); have n2_ := Aside0.mk (hbox); have n3_ := Aside0.mk ((by rw [hg]; exact (below_size (by repeat (first | (with_reducible first | exact HB.out | apply below_alloc | apply pw_below_drewN | apply below_drew1 | refine below_set ?_ GE371.out) | exact HB.out))) : w.heap.size ≤ gb372)); have n4_ := Aside0.mk ((by rw [hg]; exact (below_size (by repeat (first | (with_reducible first | exact HB.out | apply below_alloc | apply pw_below_drewN | apply below_drew1 | refine below_set ?_ GE371.out) | exact HB.out))) : w.heap.size ≤ gb372)); have n5_ := Aside0.mk ((by rw [hg]; exact Nat.ne_of_lt (blk_lt (g := gb371) (o := .cells #[.int .i64 a0_0, .slice A0_1 l0_1.length c0_1] 49 (0, 0)) (by (with_reducible repeat (first | refine blk_drewN ?_ _ | refine blk_drew ?_ | refine blk_alloc ?_ _)); exact BK371.out)) : gb371 ≠ gb372)); have n6_ := Aside0.mk ((by rw [hg]; exact Nat.ne_of_gt (blk_lt (g := gb371) (o := .cells #[.int .i64 a0_0, .slice A0_1 l0_1.length c0_1] 49 (0, 0)) (by (with_reducible repeat (first | refine blk_drewN ?_ _ | refine blk_drew ?_ | refine blk_alloc ?_ _)); exact BK371.out)) : gb372 ≠ gb371)); clear BK371; clear HB; have BK371 := n0_; have HB := n1_; have BK372 := n2_; have GW372 := n3_; have GE372 := n4_; have NB371_372 := n5_; have NB372_371 := n6_; clear n0_ n1_ n2_ n3_ n4_ n5_ n6_; clear hb hbox hg; have hnb8 := NB371_372.out; have hnc8 := NB372_371.out; have hcz9_0 : w7.cell? ⟨gb371, 0, none⟩ = some (.int .i64 a0_0) := (blk_cell BK371.out 0).trans rfl; have hcz9_1 : w7.cell? ⟨gb371, 1, none⟩ = some (.slice A0_1 l0_1.length c0_1) := (blk_cell BK371.out 1).trans rfl; have hfz9_0 := blk_frozen BK371.out 0; have hfz9_1 := blk_frozen BK371.out 1; have hcz10_0 : w7.cell? ⟨gb372, 0, none⟩ = some (.int .i64 a1_0) := (blk_cell BK372.out 0).trans rfl; have hcz10_1 : w7.cell? ⟨gb372, 1, none⟩ = some (.slice A1_1 l1_1.length c1_1) := (blk_cell BK372.out 1).trans rfl; have hfz10_0 := blk_frozen BK372.out 0; have hfz10_1 := blk_frozen BK372.out 1) | ((with_reducible refine gate_callee (f := 79) rfl ?_); refine goesL_ (some 14) rfl rfl Try.func79 (by kernel_rfl) rfl #[.slice A0_1 l0_1.length c0_1, .slice A1_1 l1_1.length c1_1] rfl (by (try simp only [List.map_toArray, List.map_cons, List.map_nil]); first | done | rfl | (simp only [List.length_drop, List.length_take]; rfl)) ?_; (with_reducible refine (laws_eqPageS.calls k _ _ l0_1 _ _ l1_1 true _ ?side1 ?side2 ?side3 ?side4 A4.out).mono ?_); (case side1 => repeat (first | exact (Kd.C_below HR0_1.out HB.out) | (with_reducible refine Kd.C_alloc ?_ _) | (with_reducible refine Kd.C_drewN ?_ _) | (with_reducible refine Kd.C_drew ?_))); (case side2 => exact HC0_1.out); (case side3 => repeat (first | exact (Kd.C_below HR1_1.out HB.out) | (with_reducible refine Kd.C_alloc ?_ _) | (with_reducible refine Kd.C_drewN ?_ _) | (with_reducible refine Kd.C_drew ?_))); (case side4 => exact HC1_1.out); rintro e w11 ⟨rfl, hb⟩; refine ⟨_, rfl, ?_⟩; have n0_ := Aside0.mk (blk_below (g := gb371) (o := .cells #[.int .i64 a0_0, .slice A0_1 l0_1.length c0_1] 49 (0, 0)) (by (with_reducible repeat (first | refine blk_drewN ?_ _ | refine blk_drew ?_ | refine blk_alloc ?_ _)); exact BK371.out) hb); have n1_ := Aside0.mk (blk_below (g := gb372) (o := .cells #[.int .i64 a1_0, .slice A1_1 l1_1.length c1_1] 49 (0, 0)) (by (with_reducible repeat (first | refine blk_drewN ?_ _ | refine blk_drew ?_ | refine blk_alloc ?_ _)); exact BK372.out) hb); have n2_ := Aside0.mk (below_step (by repeat (first | (with_reducible first | exact HB.out | apply below_alloc | apply pw_below_drewN | apply below_drew1 | refine below_set ?_ GE371.out | refine below_set ?_ GE372.out) | exact HB.out)) hb); clear BK371; clear BK372; clear HB; have BK371 := n0_; have BK372 := n1_; have HB := n2_; clear n0_ n1_ n2_; (try clear hb); (try clear hb2); (try clear hk); (try clear hi)))
      go_ret
      exact ⟨by first | rfl | (simp [errW_none, errW_some] <;> rfl) | (simp [*, errW_none, errW_some] <;> rfl), by repeat (first | (with_reducible first | exact HB.out | apply below_alloc | apply pw_below_drewN | apply below_drew1 | refine below_set ?_ GE371.out | refine below_set ?_ GE372.out) | exact HB.out)⟩
    · replace c5 := Bool.eq_false_iff.mpr c5
      subst c5
      have H1 : (some false) = some r := by rw [if_neg (show ¬ (false = true) by decide)] at H; exact H
      clear H
      have H := H1
      clear H1
      obtain rfl := Option.some.inj H
      go_enter Try.func29, Try.ntmps29
      go_wp2_with (first | ((with_reducible refine gate_dst (N := 2) rfl ?_); refine box_event ?hg (N := 2) ?hd (cs := #[.int .i64 a0_0, .slice A0_1 l0_1.length c0_1]) (t := 49) ?hr ?_; (case hd => rfl); (case hg => rfl); (case hr => first | (go_simp; done) | (go_simp; rfl)); intro gb371 hg w12 hbox hb; have n0_ := Aside0.mk (below_step (by repeat (first | (with_reducible first | exact HB.out | apply below_alloc | apply pw_below_drewN | apply below_drew1) | exact HB.out)) hb); have n1_ := Aside0.mk (hbox); have n2_ := Aside0.mk ((by rw [hg]; exact (below_size (by repeat (first | (with_reducible first | exact HB.out | apply below_alloc | apply pw_below_drewN | apply below_drew1) | exact HB.out))) : w.heap.size ≤ gb371)); have n3_ := Aside0.mk ((by rw [hg]; exact (below_size (by repeat (first | (with_reducible first | exact HB.out | apply below_alloc | apply pw_below_drewN | apply below_drew1) | exact HB.out))) : w.heap.size ≤ gb371)); clear HB; have HB := n0_; have BK371 := n1_; have GW371 := n2_; have GE371 := n3_; clear n0_ n1_ n2_ n3_; clear hb hbox hg) | ((with_reducible refine gate_dst (N := 3) rfl ?_); refine box_event ?hg (N := 3) ?hd (cs := #[.int .i64 a1_0, .slice A1_1 l1_1.length c1_1]) (t := 49) ?hr ?_; (case hd => rfl); (case hg => rfl); (case hr => first | (go_simp; done) | (go_simp; rfl)); intro gb372 hg w13 hbox hb; have n0_ := Aside0.mk (blk_below (g := gb371) (o := .cells #[.int .i64 a0_0, .slice A0_1 l0_1.length c0_1] 49 (0, 0)) (by (with_reducible repeat (first | refine blk_drewN ?_ _ | refine blk_drew ?_ | refine blk_alloc ?_ _)); exact BK371.out) hb); have n1_ := Aside0.mk (below_step (by repeat (first | (with_reducible first | exact HB.out | apply below_alloc | apply pw_below_drewN | apply below_drew1 | refine below_set ?_ GE371.out) | exact HB.out)) hb); have n2_ := Aside0.mk (hbox); have n3_ := Aside0.mk ((by rw [hg]; exact (below_size (by repeat (first | (with_reducible first | exact HB.out | apply below_alloc | apply pw_below_drewN | apply below_drew1 | refine below_set ?_ GE371.out) | exact HB.out))) : w.heap.size ≤ gb372)); have n4_ := Aside0.mk ((by rw [hg]; exact (below_size (by repeat (first | (with_reducible first | exact HB.out | apply below_alloc | apply pw_below_drewN | apply below_drew1 | refine below_set ?_ GE371.out) | exact HB.out))) : w.heap.size ≤ gb372)); have n5_ := Aside0.mk ((by rw [hg]; exact Nat.ne_of_lt (blk_lt (g := gb371) (o := .cells #[.int .i64 a0_0, .slice A0_1 l0_1.length c0_1] 49 (0, 0)) (by (with_reducible repeat (first | refine blk_drewN ?_ _ | refine blk_drew ?_ | refine blk_alloc ?_ _)); exact BK371.out)) : gb371 ≠ gb372)); have n6_ := Aside0.mk ((by rw [hg]; exact Nat.ne_of_gt (blk_lt (g := gb371) (o := .cells #[.int .i64 a0_0, .slice A0_1 l0_1.length c0_1] 49 (0, 0)) (by (with_reducible repeat (first | refine blk_drewN ?_ _ | refine blk_drew ?_ | refine blk_alloc ?_ _)); exact BK371.out)) : gb372 ≠ gb371)); clear BK371; clear HB; have BK371 := n0_; have HB := n1_; have BK372 := n2_; have GW372 := n3_; have GE372 := n4_; have NB371_372 := n5_; have NB372_371 := n6_; clear n0_ n1_ n2_ n3_ n4_ n5_ n6_; clear hb hbox hg; have hnb14 := NB371_372.out; have hnc14 := NB372_371.out; have hcz15_0 : w13.cell? ⟨gb371, 0, none⟩ = some (.int .i64 a0_0) := (blk_cell BK371.out 0).trans rfl; have hcz15_1 : w13.cell? ⟨gb371, 1, none⟩ = some (.slice A0_1 l0_1.length c0_1) := (blk_cell BK371.out 1).trans rfl; have hfz15_0 := blk_frozen BK371.out 0; have hfz15_1 := blk_frozen BK371.out 1; have hcz16_0 : w13.cell? ⟨gb372, 0, none⟩ = some (.int .i64 a1_0) := (blk_cell BK372.out 0).trans rfl; have hcz16_1 : w13.cell? ⟨gb372, 1, none⟩ = some (.slice A1_1 l1_1.length c1_1) := (blk_cell BK372.out 1).trans rfl; have hfz16_0 := blk_frozen BK372.out 0; have hfz16_1 := blk_frozen BK372.out 1) | ((with_reducible refine gate_callee (f := 79) rfl ?_); refine goesL_ (some 14) rfl rfl Try.func79 (by kernel_rfl) rfl #[.slice A0_1 l0_1.length c0_1, .slice A1_1 l1_1.length c1_1] rfl (by (try simp only [List.map_toArray, List.map_cons, List.map_nil]); first | done | rfl | (simp only [List.length_drop, List.length_take]; rfl)) ?_; (with_reducible refine (laws_eqPageS.calls k _ _ l0_1 _ _ l1_1 false _ ?side1 ?side2 ?side3 ?side4 A4.out).mono ?_); (case side1 => repeat (first | exact (Kd.C_below HR0_1.out HB.out) | (with_reducible refine Kd.C_alloc ?_ _) | (with_reducible refine Kd.C_drewN ?_ _) | (with_reducible refine Kd.C_drew ?_))); (case side2 => exact HC0_1.out); (case side3 => repeat (first | exact (Kd.C_below HR1_1.out HB.out) | (with_reducible refine Kd.C_alloc ?_ _) | (with_reducible refine Kd.C_drewN ?_ _) | (with_reducible refine Kd.C_drew ?_))); (case side4 => exact HC1_1.out); rintro e w17 ⟨rfl, hb⟩; refine ⟨_, rfl, ?_⟩; have n0_ := Aside0.mk (blk_below (g := gb371) (o := .cells #[.int .i64 a0_0, .slice A0_1 l0_1.length c0_1] 49 (0, 0)) (by (with_reducible repeat (first | refine blk_drewN ?_ _ | refine blk_drew ?_ | refine blk_alloc ?_ _)); exact BK371.out) hb); have n1_ := Aside0.mk (blk_below (g := gb372) (o := .cells #[.int .i64 a1_0, .slice A1_1 l1_1.length c1_1] 49 (0, 0)) (by (with_reducible repeat (first | refine blk_drewN ?_ _ | refine blk_drew ?_ | refine blk_alloc ?_ _)); exact BK372.out) hb); have n2_ := Aside0.mk (below_step (by repeat (first | (with_reducible first | exact HB.out | apply below_alloc | apply pw_below_drewN | apply below_drew1 | refine below_set ?_ GE371.out | refine below_set ?_ GE372.out) | exact HB.out)) hb); clear BK371; clear BK372; clear HB; have BK371 := n0_; have BK372 := n1_; have HB := n2_; clear n0_ n1_ n2_; (try clear hb); (try clear hb2); (try clear hk); (try clear hi)))
      go_ret
      exact ⟨by first | rfl | (simp [errW_none, errW_some] <;> rfl) | (simp [*, errW_none, errW_some] <;> rfl), by repeat (first | (with_reducible first | exact HB.out | apply below_alloc | apply pw_below_drewN | apply below_drew1 | refine below_set ?_ GE371.out | refine below_set ?_ GE372.out) | exact HB.out)⟩
  · rw [if_neg c3] at H
    have c3b0 : (a0_0 == a1_0) = false := beq_eq_false_iff_ne.mpr c3
    have c3b1 : (a0_0 != a1_0) = true := bne_iff_ne.mpr c3
    obtain rfl := Option.some.inj H
    go_enter Try.func29, Try.ntmps29
    go_wp2_with (first | ((with_reducible refine gate_dst (N := 2) rfl ?_); refine box_event ?hg (N := 2) ?hd (cs := #[.int .i64 a0_0, .slice A0_1 l0_1.length c0_1]) (t := 49) ?hr ?_; (case hd => rfl); (case hg => rfl); (case hr => first | (go_simp; done) | (go_simp; rfl)); intro gb371 hg w18 hbox hb; have n0_ := Aside0.mk (below_step (by repeat (first | (with_reducible first | exact HB.out | apply below_alloc | apply pw_below_drewN | apply below_drew1) | exact HB.out)) hb); have n1_ := Aside0.mk (hbox); have n2_ := Aside0.mk ((by rw [hg]; exact (below_size (by repeat (first | (with_reducible first | exact HB.out | apply below_alloc | apply pw_below_drewN | apply below_drew1) | exact HB.out))) : w.heap.size ≤ gb371)); have n3_ := Aside0.mk ((by rw [hg]; exact (below_size (by repeat (first | (with_reducible first | exact HB.out | apply below_alloc | apply pw_below_drewN | apply below_drew1) | exact HB.out))) : w.heap.size ≤ gb371)); clear HB; have HB := n0_; have BK371 := n1_; have GW371 := n2_; have GE371 := n3_; clear n0_ n1_ n2_ n3_; clear hb hbox hg) | ((with_reducible refine gate_dst (N := 3) rfl ?_); refine box_event ?hg (N := 3) ?hd (cs := #[.int .i64 a1_0, .slice A1_1 l1_1.length c1_1]) (t := 49) ?hr ?_; (case hd => rfl); (case hg => rfl); (case hr => first | (go_simp; done) | (go_simp; rfl)); intro gb372 hg w19 hbox hb; have n0_ := Aside0.mk (blk_below (g := gb371) (o := .cells #[.int .i64 a0_0, .slice A0_1 l0_1.length c0_1] 49 (0, 0)) (by (with_reducible repeat (first | refine blk_drewN ?_ _ | refine blk_drew ?_ | refine blk_alloc ?_ _)); exact BK371.out) hb); have n1_ := Aside0.mk (below_step (by repeat (first | (with_reducible first | exact HB.out | apply below_alloc | apply pw_below_drewN | apply below_drew1 | refine below_set ?_ GE371.out) | exact HB.out)) hb); have n2_ := Aside0.mk (hbox); have n3_ := Aside0.mk ((by rw [hg]; exact (below_size (by repeat (first | (with_reducible first | exact HB.out | apply below_alloc | apply pw_below_drewN | apply below_drew1 | refine below_set ?_ GE371.out) | exact HB.out))) : w.heap.size ≤ gb372)); have n4_ := Aside0.mk ((by rw [hg]; exact (below_size (by repeat (first | (with_reducible first | exact HB.out | apply below_alloc | apply pw_below_drewN | apply below_drew1 | refine below_set ?_ GE371.out) | exact HB.out))) : w.heap.size ≤ gb372)); have n5_ := Aside0.mk ((by rw [hg]; exact Nat.ne_of_lt (blk_lt (g := gb371) (o := .cells #[.int .i64 a0_0, .slice A0_1 l0_1.length c0_1] 49 (0, 0)) (by (with_reducible repeat (first | refine blk_drewN ?_ _ | refine blk_drew ?_ | refine blk_alloc ?_ _)); exact BK371.out)) : gb371 ≠ gb372)); have n6_ := Aside0.mk ((by rw [hg]; exact Nat.ne_of_gt (blk_lt (g := gb371) (o := .cells #[.int .i64 a0_0, .slice A0_1 l0_1.length c0_1] 49 (0, 0)) (by (with_reducible repeat (first | refine blk_drewN ?_ _ | refine blk_drew ?_ | refine blk_alloc ?_ _)); exact BK371.out)) : gb372 ≠ gb371)); clear BK371; clear HB; have BK371 := n0_; have HB := n1_; have BK372 := n2_; have GW372 := n3_; have GE372 := n4_; have NB371_372 := n5_; have NB372_371 := n6_; clear n0_ n1_ n2_ n3_ n4_ n5_ n6_; clear hb hbox hg; have hnb20 := NB371_372.out; have hnc20 := NB372_371.out; have hcz21_0 : w19.cell? ⟨gb371, 0, none⟩ = some (.int .i64 a0_0) := (blk_cell BK371.out 0).trans rfl; have hcz21_1 : w19.cell? ⟨gb371, 1, none⟩ = some (.slice A0_1 l0_1.length c0_1) := (blk_cell BK371.out 1).trans rfl; have hfz21_0 := blk_frozen BK371.out 0; have hfz21_1 := blk_frozen BK371.out 1; have hcz22_0 : w19.cell? ⟨gb372, 0, none⟩ = some (.int .i64 a1_0) := (blk_cell BK372.out 0).trans rfl; have hcz22_1 : w19.cell? ⟨gb372, 1, none⟩ = some (.slice A1_1 l1_1.length c1_1) := (blk_cell BK372.out 1).trans rfl; have hfz22_0 := blk_frozen BK372.out 0; have hfz22_1 := blk_frozen BK372.out 1))
    go_ret
    exact ⟨by first | rfl | (simp [errW_none, errW_some] <;> rfl) | (simp [*, errW_none, errW_some] <;> rfl), by repeat (first | (with_reducible first | exact HB.out | apply below_alloc | apply pw_below_drewN | apply below_drew1 | refine below_set ?_ GE371.out | refine below_set ?_ GE372.out) | exact HB.out)⟩

end Go.Proofs.Ytngjaajcdbodeaa.All

namespace Go.Proofs.Ytngjaajcdbodeaa.All
open Go.RowKit Go.Proofs.YtngjaajcdbodeaaW.PrintWords Go.Proofs.YtngjaajcdbodeaaW.PrintLast Go.Proofs.YtngjaajcdbodeaaW.PrintMore
attribute [local go_sem] max2_int min2_int max_two min_two max_three min_three max_four min_four   -- for this text's walks alone
set_option linter.unusedVariables false
set_option linter.unusedSimpArgs false

/-! ### laws_eqIntS: function 39 -/
def laws_eqIntS.l0 : Nat → List Int → List Int → Int → Option (Bool)
  | 0, _, _, _ => none
  | k + 1, x0, x1, x5 => if x5 < (x0.length : Int) then (if 0 ≤ x5 then (if x5 < (x1.length : Int) then (if (rd x0 x5) = (rd x1 x5) then (laws_eqIntS.l0 k x0 x1 (wrap64 (x5 + 1))) else (some false)) else (none)) else (none)) else (some true)
def laws_eqIntS.f (k : Nat) (l0 : List Int) (l1 : List Int) : Option (Bool) := if (l0.length : Int) = (l1.length : Int) then (laws_eqIntS.l0 k l0 l1 0) else (some false)
theorem laws_eqIntS.mono_l : ∀ k, (∀ y0 y1 y2, LeO (laws_eqIntS.l0 k y0 y1 y2) (laws_eqIntS.l0 (k + 1) y0 y1 y2))
  | 0 => fun _ _ _ r h => by simp [laws_eqIntS.l0] at h
  | k + 1 => by
    have ih0 := laws_eqIntS.mono_l k
    · intro y0 y1 y2
      unfold laws_eqIntS.l0
      repeat' first
      | (with_reducible exact ih0 _ _ _)
      | (with_reducible exact LeO.refl _)
      | (with_reducible exact LeO.none _)
      | (with_reducible refine LeO.ite ?_ ?_)
      | (with_reducible refine LeO.bind ?_ (fun _ => ?_))
      | exact ih0 _ _ _
      | exact LeO.none _
      | refine LeO.ite ?_ ?_
      | refine LeO.bind ?_ (fun _ => ?_)
theorem laws_eqIntS.mono : ∀ a0 a1 k, LeO (laws_eqIntS.f k a0 a1) (laws_eqIntS.f (k + 1) a0 a1) := by
  intro a0 a1 k
  have ih0 := laws_eqIntS.mono_l k
  unfold laws_eqIntS.f
  repeat' first
      | (with_reducible exact ih0 _ _ _)
      | (with_reducible exact LeO.refl _)
      | (with_reducible exact LeO.none _)
      | (with_reducible refine LeO.ite ?_ ?_)
      | (with_reducible refine LeO.bind ?_ (fun _ => ?_))
      | exact ih0 _ _ _
      | exact LeO.none _
      | refine LeO.ite ?_ ?_
      | refine LeO.bind ?_ (fun _ => ?_)
set_option maxHeartbeats 8000000 in
set_option maxRecDepth 100000 in
theorem laws_eqIntS.calls (k : Nat) (A0 : Option Addr) (c0 : Nat) (l0 : List Int) (A1 : Option Addr) (c1 : Nat) (l1 : List Int) (r : Bool) (w : World) (hr0 : Kd.C (Kd.int .i64) w A0 l0.length l0) (hc0 : l0.length ≤ c0) (hr1 : Kd.C (Kd.int .i64) w A1 l1.length l1) (hc1 : l1.length ≤ c1) (h : laws_eqIntS.f k l0 l1 = some r) :
    Calls Try.prog 39 #[.slice A0 l0.length c0, .slice A1 l1.length c1] w fun e w' => e = .returned (.bool r) ∧ Drawn0 w w' := by
  have HR0 := Aside0.mk hr0
  have HC0 := Aside0.mk hc0
  clear hr0 hc0
  have HR1 := Aside0.mk hr1
  have HC1 := Aside0.mk hc1
  clear hr1 hc1
  have H : (if (l0.length : Int) = (l1.length : Int) then (laws_eqIntS.l0 k l0 l1 0) else (some false)) = some r := h
  clear h
  by_cases c3 : (l0.length : Int) = (l1.length : Int)
  · rw [if_pos c3] at H
    have c3b0 : ((l0.length : Int) == (l1.length : Int)) = true := beq_iff_eq.mpr c3
    have c3b1 : ((l0.length : Int) != (l1.length : Int)) = false := bne_eq_false_iff_eq.mpr c3
    have c3b2 : (l0.length == l1.length) = true := by first | simpa using c3 | (simp at c3 ⊢; omega)
    clear c3
    have H' := Aside0.mk H
    clear H
    go_enter Try.func39, Try.ntmps39
    go_wp2
    repeat (go_quiet (fail); try go_wp2)
    go_loopg [5] k (fun kq v5 w' => ∃ (x5_1 : Int), v5 = .int .i64 x5_1 ∧ Aside0 (laws_eqIntS.l0 kq l0 l1 x5_1 = some r) ∧ Aside0 (kq ≤ k) ∧ Drawn0 w w')
    case atStart => exact ⟨(0), (by first | rfl | (simp; done) | (simp [*]; done)), H', ⟨Nat.le_refl _⟩, by repeat (first | exact Drawn0.refl _ | apply Drawn0.step)⟩
    case round =>
      clear H'
      try clear c1
      try clear p2
      try clear c3
      try clear c3b0
      try clear c3b1
      try clear c3b2
      obtain ⟨x5_1, rfl, HA, HK1, ⟨m1, rfl⟩⟩ := hrel
      cases gk with
      | zero => exact absurd HA.out (by simp [laws_eqIntS.l0])
      | succ k1 =>
        have H := HA.out
        clear HA
        simp only [laws_eqIntS.l0] at H
        by_cases c4 : x5_1 < (l0.length : Int)
        · rw [if_pos c4] at H
          have c4b0 : decide (x5_1 < (l0.length : Int)) = true := decide_eq_true c4
          clear c4
          by_cases c5 : 0 ≤ x5_1
          · rw [if_pos c5] at H
            have c5b0 : decide (0 ≤ x5_1) = true := decide_eq_true c5
            clear c5
            by_cases c6 : x5_1 < (l1.length : Int)
            · rw [if_pos c6] at H
              have c6b0 : decide (x5_1 < (l1.length : Int)) = true := decide_eq_true c6
              clear c6
              by_cases c7 : (rd l0 x5_1) = (rd l1 x5_1)
              · rw [if_pos c7] at H
                have c7b0 : ((rd l0 x5_1) == (rd l1 x5_1)) = true := beq_iff_eq.mpr c7
                have c7b1 : ((rd l0 x5_1) != (rd l1 x5_1)) = false := bne_eq_false_iff_eq.mpr c7
                clear c7
                have H' := Aside0.mk H
                clear H
                have p555 : 0 ≤ (x5_1 : Int) := of_decide_eq_true (by first | (with_reducible assumption) | assumption)
                have q555 : x5_1 < (l0.length : Int) := of_decide_eq_true (by first | (with_reducible assumption) | assumption)
                obtain ⟨ad555, e555, hx555_0⟩ := Kd.at_int HR0.out x5_1 p555 q555
                cases e555
                replace p555 := eq_true p555
                replace q555 := eq_true q555
                have p556 : 0 ≤ (x5_1 : Int) := of_decide_eq_true (by first | (with_reducible assumption) | assumption)
                have q556 : x5_1 < (l1.length : Int) := of_decide_eq_true (by first | (with_reducible assumption) | assumption)
                obtain ⟨ad556, e556, hx556_0⟩ := Kd.at_int HR1.out x5_1 p556 q556
                cases e556
                replace p556 := eq_true p556
                replace q556 := eq_true q556
                go_wp2
                repeat (go_quiet (fail); try go_wp2)
                go_roundg k1
                case measure => have := HK1.out; omega
                case rel => exact ⟨(wrap64 (x5_1 + 1)), (by first | rfl | (simp; done) | (simp [*]; done)), H', ⟨by have := HK1.out; omega⟩, by repeat (first | exact Drawn0.refl _ | apply Drawn0.step)⟩
              · rw [if_neg c7] at H
                have c7b0 : ((rd l0 x5_1) == (rd l1 x5_1)) = false := beq_eq_false_iff_ne.mpr c7
                have c7b1 : ((rd l0 x5_1) != (rd l1 x5_1)) = true := bne_iff_ne.mpr c7
                obtain rfl := Option.some.inj H
                have p555 : 0 ≤ (x5_1 : Int) := of_decide_eq_true (by first | (with_reducible assumption) | assumption)
                have q555 : x5_1 < (l0.length : Int) := of_decide_eq_true (by first | (with_reducible assumption) | assumption)
                obtain ⟨ad555, e555, hx555_0⟩ := Kd.at_int HR0.out x5_1 p555 q555
                cases e555
                replace p555 := eq_true p555
                replace q555 := eq_true q555
                have p556 : 0 ≤ (x5_1 : Int) := of_decide_eq_true (by first | (with_reducible assumption) | assumption)
                have q556 : x5_1 < (l1.length : Int) := of_decide_eq_true (by first | (with_reducible assumption) | assumption)
                obtain ⟨ad556, e556, hx556_0⟩ := Kd.at_int HR1.out x5_1 p556 q556
                cases e556
                replace p556 := eq_true p556
                replace q556 := eq_true q556
                go_wp2
                repeat (go_quiet (fail); try go_wp2)
                go_ret
                exact ⟨by first | rfl | (simp; done) | (simp [*]; done), by repeat (first | exact Drawn0.refl _ | apply Drawn0.step)⟩
            · rw [if_neg c6] at H
              exact absurd H (by simp)
          · rw [if_neg c5] at H
            exact absurd H (by simp)
        · rw [if_neg c4] at H
          have c4b0 : decide (x5_1 < (l0.length : Int)) = false := decide_eq_false c4
          clear c4
          obtain rfl := Option.some.inj H
          go_wp2
          repeat (go_quiet (fail); try go_wp2)
          go_ret
          exact ⟨by first | rfl | (simp; done) | (simp [*]; done), by repeat (first | exact Drawn0.refl _ | apply Drawn0.step)⟩
  · rw [if_neg c3] at H
    have c3b0 : ((l0.length : Int) == (l1.length : Int)) = false := beq_eq_false_iff_ne.mpr c3
    have c3b1 : ((l0.length : Int) != (l1.length : Int)) = true := bne_iff_ne.mpr c3
    have c3b2 : (l0.length == l1.length) = false := by first | simpa using c3 | (simp at c3 ⊢; omega)
    obtain rfl := Option.some.inj H
    go_enter Try.func39, Try.ntmps39
    go_wp2
    repeat (go_quiet (fail); try go_wp2)
    go_ret
    exact ⟨by first | rfl | (simp; done) | (simp [*]; done), by repeat (first | exact Drawn0.refl _ | apply Drawn0.step)⟩

end Go.Proofs.Ytngjaajcdbodeaa.All

namespace Go.Proofs.Ytngjaajcdbodeaa.All
open Go.RowKit Go.Proofs.YtngjaajcdbodeaaW.PrintWords Go.Proofs.YtngjaajcdbodeaaW.PrintLast Go.Proofs.YtngjaajcdbodeaaW.PrintMore
attribute [local go_sem] max2_int min2_int max_two min_two max_three min_three max_four min_four   -- for this text's walks alone
set_option linter.unusedVariables false
set_option linter.unusedSimpArgs false

/-! ### laws_markIntS: function 40 -/
def laws_markIntS.l0 : Nat → List Int → Int → Int → Option (Int × List Int)
  | 0, _, _, _ => none
  | k + 1, x0, x1, x5 => if x5 < (x0.length : Int) then (if 0 ≤ x5 then (laws_markIntS.l0 k (x0.set (x5 : Int).toNat x1) (wrap64 (x1 + 1)) (wrap64 (x5 + 1))) else (none)) else (some (x1, x0))
def laws_markIntS.f (k : Nat) (l0 : List Int) (a1 : Int) : Option (Int × List Int) := laws_markIntS.l0 k l0 a1 0
theorem laws_markIntS.mono_l : ∀ k, (∀ y0 y1 y2, LeO (laws_markIntS.l0 k y0 y1 y2) (laws_markIntS.l0 (k + 1) y0 y1 y2))
  | 0 => fun _ _ _ r h => by simp [laws_markIntS.l0] at h
  | k + 1 => by
    have ih0 := laws_markIntS.mono_l k
    · intro y0 y1 y2
      unfold laws_markIntS.l0
      repeat' first
      | (with_reducible exact ih0 _ _ _)
      | (with_reducible exact LeO.refl _)
      | (with_reducible exact LeO.none _)
      | (with_reducible refine LeO.ite ?_ ?_)
      | (with_reducible refine LeO.bind ?_ (fun _ => ?_))
      | exact ih0 _ _ _
      | exact LeO.none _
      | refine LeO.ite ?_ ?_
      | refine LeO.bind ?_ (fun _ => ?_)
theorem laws_markIntS.mono : ∀ a0 a1 k, LeO (laws_markIntS.f k a0 a1) (laws_markIntS.f (k + 1) a0 a1) := by
  intro a0 a1 k
  have ih0 := laws_markIntS.mono_l k
  unfold laws_markIntS.f
  repeat' first
      | (with_reducible exact ih0 _ _ _)
      | (with_reducible exact LeO.refl _)
      | (with_reducible exact LeO.none _)
      | (with_reducible refine LeO.ite ?_ ?_)
      | (with_reducible refine LeO.bind ?_ (fun _ => ?_))
      | exact ih0 _ _ _
      | exact LeO.none _
      | refine LeO.ite ?_ ?_
      | refine LeO.bind ?_ (fun _ => ?_)
set_option maxHeartbeats 8000000 in
set_option maxRecDepth 100000 in
theorem laws_markIntS.calls (k : Nat) (P0_ : Nat → Prop) (u9000_ : Value) (l0 : List Int) (a1 : Int) (r1 : Int) (r2 : List Int) (w0 w : World) (hB : Below w0.heap.size w0 w) (ho0 : Kd.R (Kd.int .i64) 3 w w0.heap.size P0_ u9000_ l0) (h : laws_markIntS.f k l0 a1 = some (r1, r2)) :
    Calls Try.prog 40 #[u9000_, .int .i64 a1] w fun e w' => e = .returned (.int .i64 r1) ∧ Kd.R (Kd.int .i64) 3 w' w0.heap.size (fun k_ => (P0_ k_ ∨ w.heap.size ≤ k_)) u9000_ r2 ∧ Below w0.heap.size w0 w' ∧ Kept w w' (fun k_ => P0_ k_) := by
  have HO0 := Aside0.mk (show Kd.R (Kd.int .i64) 3 w w0.heap.size (fun k_ => (P0_ k_ ∨ w.heap.size ≤ k_)) u9000_ l0 from Kd.R_mono ho0 (fun k_ hk => (.inl hk)))
  have HK := Aside0.mk (Kept.refl w (fun k_ => P0_ k_))
  have HW0 := Aside0.mk hB.size
  have HB := Aside0.mk hB
  clear hB
  have H : (laws_markIntS.l0 k l0 a1 0) = some (r1, r2) := h
  clear h
  have H' := Aside0.mk H
  clear H
  go_enter Try.func40, Try.ntmps40
  go_wp2
  go_loopg [1, 5] k (fun kq v1 v5 w' => ∃ (x0_1 : List Int) (x1_1 : Int) (x5_1 : Int), v1 = .int .i64 x1_1 ∧ v5 = .int .i64 x5_1 ∧ Aside0 (laws_markIntS.l0 kq x0_1 x1_1 x5_1 = some (r1, r2)) ∧ Aside0 (kq ≤ k) ∧ Aside0 (Kd.R (Kd.int .i64) 3 w' w0.heap.size (fun k_ => (P0_ k_ ∨ w.heap.size ≤ k_)) u9000_ x0_1) ∧ Aside0 (Kept w w' (fun k_ => P0_ k_)) ∧ Aside0 (Below w0.heap.size w0 w'))
  case atStart => exact ⟨(l0), (a1), (0), (by first | rfl | (simp; done) | (simp [*]; done)), (by first | rfl | (simp; done) | (simp [*]; done)), H', ⟨Nat.le_refl _⟩, ⟨by (with_reducible repeat (first | apply Kd.R_alloc | apply Kd.R_drewN | apply Kd.R_drew)); exact HO0.out⟩, ⟨by repeat (first | (with_reducible first | exact HK.out | apply Kept.alloc | apply Kept.drewN | apply Kept.drew) | exact HK.out)⟩, ⟨by repeat (first | (with_reducible first | exact HB.out | apply below_alloc | apply pw_below_drewN | apply below_drew1) | exact HB.out)⟩⟩
  case round =>
    clear H'
    try clear p2
    obtain ⟨x0_1, x1_1, x5_1, rfl, rfl, HA, HK1, HO_0, HK, HB⟩ := hrel
    cases gk with
    | zero => exact absurd HA.out (by simp [laws_markIntS.l0])
    | succ k1 =>
      have H := HA.out
      clear HA
      simp only [laws_markIntS.l0] at H
      by_cases c3 : x5_1 < (x0_1.length : Int)
      · rw [if_pos c3] at H
        have c3b0 : decide (x5_1 < (x0_1.length : Int)) = true := decide_eq_true c3
        clear c3
        by_cases c4 : 0 ≤ x5_1
        · rw [if_pos c4] at H
          have c4b0 : decide (0 ≤ x5_1) = true := decide_eq_true c4
          clear c4
          obtain ⟨y557, hy557⟩ : ∃ y_ : List Int, y_ = (x0_1.set (x5_1 : Int).toNat x1_1) := ⟨_, rfl⟩
          replace H : (laws_markIntS.l0 k1 y557 (wrap64 (x1_1 + 1)) (wrap64 (x5_1 + 1))) = some (r1, r2) := by first | (rw [hy557]; with_reducible exact H) | (have H2_ := (Option.bind_some _ _).symm.trans H; rw [hy557]; with_reducible exact H2_) | (have H2_ := (Option.bind_some _ _).symm.trans H; with_reducible exact H2_) | with_reducible exact H | (rw [hy557]; exact H) | exact H
          have Ny557 := Aside0.mk hy557
          clear hy557
          have H' := Aside0.mk H
          clear H
          obtain ⟨Ao6, co6, eo6⟩ := Kd.R_slice HO_0.out
          subst eo6
          have p5 : 0 ≤ (x5_1 : Int) := of_decide_eq_true (by first | (with_reducible assumption) | assumption)
          have q5 : (x5_1 : Int) < ((x0_1.length : Int) : Int) := of_decide_eq_true (by first | (with_reducible assumption) | assumption)
          obtain ⟨go5, co5, eo5, gb5, gl5, cl5, HG5⟩ := Kd.R_form HO_0.out (by omega)
          (first | cases eo5 | (injection eo5 with ea_ en_ ec_; (first | subst ea_ | (injection ea_ with ea_; subst ea_)); subst ec_; clear en_))
          have GB5 := Aside0.mk gb5
          have GG5 := Aside0.mk HG5
          clear gb5 gl5 HG5
          have HMgo5 := Aside0.mk (show (P0_ go5 ∨ w.heap.size ≤ go5) from (HO_0.out.1 _ rfl))
          obtain ⟨hx5_0, hf5_0⟩ := Kd.R_celln 0 HO_0.out (x5_1 : Int) p5 q5
          replace p5 := eq_true p5
          replace q5 := eq_true q5
          have HP7 := Kd.R_putg HO_0.out (x5_1 : Int) x1_1
          go_wp2_with (first | ((with_reducible refine gate_store (t := 3) (p := 15) rfl ?_); refine store_event (t := 3) (p := 15) (v := ?vo_w8) (w1 := (wr.setCell ⟨go5, (x5_1 : Int).toNat, none⟩ (.int .i64 x1_1))) ?hg ?ho ?hn ?hr ?_; (case ho => rfl); (case hg => rfl); (case hn => rfl); (case hr => first | (go_simp; done) | (go_simp; rfl)); intro w8 hw; have hg : wr.grownBy w8 (some go5) := (by rw [hw]; exact HP7.2); have hp_ : Kd.R (Kd.int .i64) 3 w8 w0.heap.size (fun k_ => (P0_ k_ ∨ w.heap.size ≤ k_)) (.slice (some ⟨go5, 0, none⟩) x0_1.length co6) y557 := (by rw [hw, Ny557.out]; exact HP7.1); clear HP7; have n0_ := Aside0.mk (hp_); have n1_ := Aside0.mk ((by rw [hw]; exact below_set (HB.out) GB5.out : Below w0.heap.size w0 w8)); have n2_ := Aside0.mk (Kept.of_grown (S := (fun k_ => P0_ k_)) hg (by repeat (first | (with_reducible first | exact HK.out | apply Kept.alloc | apply Kept.drewN | apply Kept.drew) | exact HK.out)) (fun k_ e_ => (HO_0.out.1 k_ e_))); clear HO_0; clear HB; clear HK; have HO_0 := n0_; have HB := n1_; have HK := n2_; clear n0_ n1_ n2_; clear hg hw hp_))
          go_roundg k1
          case measure => have := HK1.out; omega
          case rel => exact ⟨(y557), (wrap64 (x1_1 + 1)), (wrap64 (x5_1 + 1)), (by first | rfl | (simp; done) | (simp [*]; done)), (by first | rfl | (simp; done) | (simp [*]; done)), H', ⟨by have := HK1.out; omega⟩, ⟨by (with_reducible repeat (first | apply Kd.R_alloc | apply Kd.R_drewN | apply Kd.R_drew)); exact HO_0.out⟩, ⟨by repeat (first | (with_reducible first | exact HK.out | apply Kept.alloc | apply Kept.drewN | apply Kept.drew) | exact HK.out)⟩, ⟨by repeat (first | (with_reducible first | exact HB.out | apply below_alloc | apply pw_below_drewN | apply below_drew1) | exact HB.out)⟩⟩
        · rw [if_neg c4] at H
          exact absurd H (by simp)
      · rw [if_neg c3] at H
        have c3b0 : decide (x5_1 < (x0_1.length : Int)) = false := decide_eq_false c3
        clear c3
        simp only [Option.some.injEq, Prod.mk.injEq] at H
        obtain ⟨rfl, rfl⟩ := H
        obtain ⟨Ao9, co9, eo9⟩ := Kd.R_slice HO_0.out
        subst eo9
        go_wp2
        go_ret
        exact ⟨by first | rfl | (simp [errW_none, errW_some] <;> rfl) | (simp [*, errW_none, errW_some] <;> rfl), by (with_reducible repeat (first | apply Kd.R_alloc | apply Kd.R_drewN | apply Kd.R_drew)); exact HO_0.out, by repeat (first | (with_reducible first | exact HB.out | apply below_alloc | apply pw_below_drewN | apply below_drew1) | exact HB.out), by repeat (first | (with_reducible first | exact HK.out | apply Kept.alloc | apply Kept.drewN | apply Kept.drew) | exact HK.out)⟩

end Go.Proofs.Ytngjaajcdbodeaa.All

/- markEntryS writes count, count + 1, .. into the numbers of a row of entries of one's own, and returns the next number. No condition. -/
namespace Go.Proofs.Ytngjaajcdbodeaa.All
open Go.RowKit Go.Proofs.YtngjaajcdbodeaaW.PrintWords Go.Proofs.YtngjaajcdbodeaaW.PrintLast Go.Proofs.YtngjaajcdbodeaaW.PrintMore
set_option linter.unusedVariables false
set_option linter.unusedSimpArgs false

/-! ### laws_markEntryS: by hand -/
def w1 (n : Int) : Int := wrap64 (n + 1)
def laws_markEntryS.l0 : Nat → List S103 → Int → Int → Option (Int × List S103)
  | 0, _, _, _ => none
  | k + 1, x0, x1, x5 => if x5 < (x0.length : Int) then (if 0 ≤ x5 then (laws_markEntryS.l0 k (x0.set x5.toNat ⟨x1, ⟨w1 x1, w1 (w1 x1), w1 (w1 (w1 x1)), w1 (w1 (w1 (w1 x1)))⟩⟩) (w1 (w1 (w1 (w1 (w1 x1))))) (wrap64 (x5 + 1))) else none) else (some (x1, x0))
def laws_markEntryS.f (k : Nat) (l0 : List S103) (a1 : Int) : Option (Int × List S103) := laws_markEntryS.l0 k l0 a1 0
theorem laws_markEntryS.mono_l : ∀ k, (∀ y0 y1 y2, LeO (laws_markEntryS.l0 k y0 y1 y2) (laws_markEntryS.l0 (k + 1) y0 y1 y2))
  | 0 => fun _ _ _ r h => by simp [laws_markEntryS.l0] at h
  | k + 1 => by
    have ih0 := laws_markEntryS.mono_l k
    intro y0 y1 y2
    unfold laws_markEntryS.l0
    exact LeO.ite (LeO.ite (ih0 _ _ _) (LeO.refl _)) (LeO.refl _)
theorem laws_markEntryS.mono : ∀ a0 a1 k, LeO (laws_markEntryS.f k a0 a1) (laws_markEntryS.f (k + 1) a0 a1) := fun a0 a1 k => laws_markEntryS.mono_l k _ _ _
set_option maxHeartbeats 8000000 in
set_option maxRecDepth 100000 in
theorem laws_markEntryS.calls (k : Nat) (P0_ : Nat → Prop) (u9000_ : Value) (l0 : List S103) (a1 : Int) (r1 : Int) (r2 : List S103) (w0 w : World) (hB : Below w0.heap.size w0 w) (ho0 : Kd.R k103 103 w w0.heap.size P0_ u9000_ l0) (h : laws_markEntryS.f k l0 a1 = some (r1, r2)) :
    Calls Try.prog 82 #[u9000_, .int .i64 a1] w fun e w' => e = .returned (.int .i64 r1) ∧ Kd.R k103 103 w' w0.heap.size (fun k_ => (P0_ k_ ∨ w.heap.size ≤ k_)) u9000_ r2 ∧ Below w0.heap.size w0 w' ∧ Kept w w' (fun k_ => P0_ k_) := by
  have HO0 := Aside0.mk (show Kd.R k103 103 w w0.heap.size (fun k_ => (P0_ k_ ∨ w.heap.size ≤ k_)) u9000_ l0 from Kd.R_mono ho0 (fun k_ hk => (.inl hk)))
  have HK := Aside0.mk (Kept.refl w (fun k_ => P0_ k_))
  have HB := Aside0.mk hB
  clear hB ho0
  have H' := Aside0.mk h
  clear h
  have hu1 := Try.underlying103
  go_enter Try.func82, Try.ntmps82
  go_wp2
  go_loopg [1, 5] k (fun kq v1 v5 w' => ∃ (x0_1 : List S103) (x1_1 : Int) (x5_1 : Int), v1 = .int .i64 x1_1 ∧ v5 = .int .i64 x5_1 ∧ Aside0 (laws_markEntryS.l0 kq x0_1 x1_1 x5_1 = some (r1, r2)) ∧ Aside0 (kq ≤ k) ∧ Aside0 (Kd.R k103 103 w' w0.heap.size (fun k_ => (P0_ k_ ∨ w.heap.size ≤ k_)) u9000_ x0_1) ∧ Aside0 (Kept w w' (fun k_ => P0_ k_)) ∧ Aside0 (Below w0.heap.size w0 w'))
  case atStart => exact ⟨l0, a1, 0, rfl, rfl, H', ⟨Nat.le_refl _⟩, HO0, HK, HB⟩
  case round =>
    clear H' HO0 HK HB
    obtain ⟨x0_1, x1_1, x5_1, rfl, rfl, HA, HK1, HO, HK, HB⟩ := hrel
    cases gk with
    | zero => exact absurd HA.out (by simp [laws_markEntryS.l0])
    | succ k1 =>
      have H := HA.out
      clear HA
      simp only [laws_markEntryS.l0] at H
      by_cases c3 : x5_1 < (x0_1.length : Int)
      · rw [if_pos c3] at H
        by_cases c4 : 0 ≤ x5_1
        · rw [if_pos c4] at H
          have H' := Aside0.mk H
          clear H
          obtain ⟨Ao6, co6, eo6⟩ := Kd.R_slice HO.out
          subst eo6
          obtain ⟨go5, co5, eo5, gb5, gl5, cl5, HG5⟩ := Kd.R_form HO.out (by omega)
          injection eo5 with ea_ en_ ec_
          subst ea_
          subst ec_
          clear en_
          have hPg := Aside0.mk (show (P0_ go5 ∨ w.heap.size ≤ go5) from (HO.out.1 _ rfl))
          obtain ⟨c, hcl, hM, hcc, hfr⟩ := Kd.R_elem HO.out z103 x5_1 c4 c3
          obtain rfl := k103_openM hM
          have HP := Aside0.mk (Kd.R_seg HO.out x5_1 c4 c3 (seg := [.int .i64 x1_1, .int .i64 (w1 x1_1), .int .i64 (w1 (w1 x1_1)), .int .i64 (w1 (w1 (w1 x1_1))), .int .i64 (w1 (w1 (w1 (w1 x1_1))))]) (j := 0) hcl hcc (show 5 ≤ 5 from Nat.le_refl _) (x' := (⟨x1_1, ⟨w1 x1_1, w1 (w1 x1_1), w1 (w1 (w1 x1_1)), w1 (w1 (w1 (w1 x1_1)))⟩⟩ : S103)) (k103_mkM wr w0.heap.size (fun _ => False) _) (fun _ hk => hk.elim))
          have hx0 : wr.cell? ⟨go5, x5_1.toNat * 5, none⟩ = some _ := hcc 0 _ rfl
          have hx1 : wr.cell? ⟨go5, x5_1.toNat * 5 + 1, none⟩ = some _ := hcc 1 _ rfl
          have hx2 : wr.cell? ⟨go5, x5_1.toNat * 5 + 2, none⟩ = some _ := hcc 2 _ rfl
          have hx3 : wr.cell? ⟨go5, x5_1.toNat * 5 + 3, none⟩ = some _ := hcc 3 _ rfl
          have hx4 : wr.cell? ⟨go5, x5_1.toNat * 5 + 4, none⟩ = some _ := hcc 4 _ rfl
          have hf0 : wr.frozen? ⟨go5, x5_1.toNat * 5, none⟩ = false := hfr 0
          have hf1 : wr.frozen? ⟨go5, x5_1.toNat * 5 + 1, none⟩ = false := hfr 1
          have hf2 : wr.frozen? ⟨go5, x5_1.toNat * 5 + 2, none⟩ = false := hfr 2
          have hf3 : wr.frozen? ⟨go5, x5_1.toNat * 5 + 3, none⟩ = false := hfr 3
          have hf4 : wr.frozen? ⟨go5, x5_1.toNat * 5 + 4, none⟩ = false := hfr 4
          clear hcc hfr hM hcl
          have GB := Aside0.mk gb5
          clear gb5 gl5 HG5
          have c3b0 : decide (x5_1 < (x0_1.length : Int)) = true := decide_eq_true c3
          go_wp2_with fail
          go_roundg k1
          case measure => have := HK1.out; omega
          case rel => exact ⟨_, _, _, rfl, rfl, H', ⟨by have := HK1.out; omega⟩, ⟨HP.out.1⟩, ⟨((((HK.out.setCell hPg.out _).setCell hPg.out _).setCell hPg.out _).setCell hPg.out _).setCell hPg.out _⟩, ⟨below_set (below_set (below_set (below_set (below_set HB.out GB.out) GB.out) GB.out) GB.out) GB.out⟩⟩
        · rw [if_neg c4] at H
          exact absurd H (by simp)
      · rw [if_neg c3] at H
        have c3b0 : decide (x5_1 < (x0_1.length : Int)) = false := decide_eq_false c3
        clear c3
        simp only [Option.some.injEq, Prod.mk.injEq] at H
        obtain ⟨rfl, rfl⟩ := H
        obtain ⟨Ao9, co9, eo9⟩ := Kd.R_slice HO.out
        subst eo9
        go_wp2
        go_ret
        exact ⟨rfl, HO.out, HB.out, HK.out⟩

end Go.Proofs.Ytngjaajcdbodeaa.All

/- markPageS and markBook write count, count + 1, .. into the numbers of the pages of a book of one's own, and return the next number. No condition. -/
namespace Go.Proofs.Ytngjaajcdbodeaa.All
open Go.RowKit Go.Proofs.YtngjaajcdbodeaaW.PrintWords Go.Proofs.YtngjaajcdbodeaaW.PrintLast Go.Proofs.YtngjaajcdbodeaaW.PrintMore
set_option linter.unusedVariables false
set_option linter.unusedSimpArgs false

/-! ### laws_markPageS: by hand -/
/-- What the marks make of a bool. -/
def m3 (n : Int) : Bool := Int.tmod n 3 == 0
def laws_markPageS.l0 : Nat → List S90 → Int → Int → Option (Int × List S90)
  | 0, _, _, _ => none
  | k + 1, x0, x1, x5 => if x5 < (x0.length : Int) then (if 0 ≤ x5 then ((laws_markEntryS.f k (rd_T90 x0 x5).f1.f1 (w1 (w1 x1))).bind fun t => laws_markPageS.l0 k (x0.set x5.toNat ⟨m3 x1, ⟨m3 (w1 x1), t.2⟩⟩) t.1 (wrap64 (x5 + 1))) else none) else (some (x1, x0))
def laws_markPageS.f (k : Nat) (l0 : List S90) (a1 : Int) : Option (Int × List S90) := laws_markPageS.l0 k l0 a1 0
theorem laws_markPageS.mono_l : ∀ k, (∀ y0 y1 y2, LeO (laws_markPageS.l0 k y0 y1 y2) (laws_markPageS.l0 (k + 1) y0 y1 y2))
  | 0 => fun _ _ _ r h => by simp [laws_markPageS.l0] at h
  | k + 1 => by
    have ih0 := laws_markPageS.mono_l k
    intro y0 y1 y2
    unfold laws_markPageS.l0
    exact LeO.ite (LeO.ite (LeO.bind (laws_markEntryS.mono _ _ _) (fun _ => ih0 _ _ _)) (LeO.refl _)) (LeO.refl _)
theorem laws_markPageS.mono : ∀ a0 a1 k, LeO (laws_markPageS.f k a0 a1) (laws_markPageS.f (k + 1) a0 a1) := fun a0 a1 k => laws_markPageS.mono_l k _ _ _
theorem size_set2 (w : World) (a b : Addr) (u v : Value) : ((w.setCell a u).setCell b v).heap.size = w.heap.size := by simp [World.setCell]
theorem mark_back {w0 w wr wc w' : World} {P0_ oki : Nat → Prop} {g n cap c2 m : Nat} {A2 : Option Addr} {x5 : Int} {b0 b1 : Bool} {xs : List S90} {q2 : List S103}
    (h : Kd.H k90 90 wc w0.heap.size (fun k_ => (P0_ k_ ∨ w.heap.size ≤ k_)) (.slice (some ⟨g, 0, none⟩) n cap) xs x5 (fun k => oki k ∨ (P0_ k ∨ w.heap.size ≤ k) ∧ wr.heap.size ≤ k) [.bool b0, .bool b1, .slice A2 m c2])
    (hk : Kept wc w' (fun k_ => oki k_)) (ho : Kd.R k103 103 w' w0.heap.size (fun k_ => (oki k_ ∨ wc.heap.size ≤ k_)) (.slice A2 m c2) q2) (hle : w.heap.size ≤ wr.heap.size) (hsz : wc.heap.size = wr.heap.size) :
    Kd.S k90 90 w' w0.heap.size (fun k_ => (P0_ k_ ∨ w.heap.size ≤ k_)) (.slice (some ⟨g, 0, none⟩) n cap) (xs.set x5.toNat ⟨b0, ⟨b1, q2⟩⟩) := by
  refine Kd.H_back (Kd.H_kept h hk (fun k _ hn hs => hn (.inl hs))) (k90_mkM w' w0.heap.size _ (⟨b0, ⟨b1, q2⟩⟩ : S90) ho) (fun k hk => ?_)
  rcases hk with hk | hk
  · exact .inl hk
  · rw [hsz] at hk
    exact .inr ⟨.inr (by omega), hk⟩
set_option maxHeartbeats 2000000 in
set_option maxRecDepth 100000 in
theorem laws_markPageS.calls (k : Nat) (P0_ : Nat → Prop) (u9000_ : Value) (l0 : List S90) (a1 : Int) (r1 : Int) (r2 : List S90) (w0 w : World) (hB : Below w0.heap.size w0 w) (ho0 : Kd.S k90 90 w w0.heap.size P0_ u9000_ l0) (h : laws_markPageS.f k l0 a1 = some (r1, r2)) :
    Calls Try.prog 81 #[u9000_, .int .i64 a1] w fun e w' => e = .returned (.int .i64 r1) ∧ Kd.S k90 90 w' w0.heap.size (fun k_ => (P0_ k_ ∨ w.heap.size ≤ k_)) u9000_ r2 ∧ Below w0.heap.size w0 w' ∧ Kept w w' (fun k_ => P0_ k_) := by
  have HO0 := Aside0.mk (show Kd.S k90 90 w w0.heap.size (fun k_ => (P0_ k_ ∨ w.heap.size ≤ k_)) u9000_ l0 from Kd.S_mono ho0 (fun k_ hk => (.inl hk)))
  have HK := Aside0.mk (Kept.refl w (fun k_ => P0_ k_))
  have HB := Aside0.mk hB
  clear hB ho0
  have H' := Aside0.mk h
  clear h
  have hu1 := Try.underlying90
  have hu2 := Try.underlying54
  go_enter Try.func81, Try.ntmps81
  go_wp2
  go_loopg [1, 5] k (fun kq v1 v5 w' => ∃ (x0_1 : List S90) (x1_1 : Int) (x5_1 : Int), v1 = .int .i64 x1_1 ∧ v5 = .int .i64 x5_1 ∧ Aside0 (laws_markPageS.l0 kq x0_1 x1_1 x5_1 = some (r1, r2)) ∧ Aside0 (kq ≤ k) ∧ Aside0 (Kd.S k90 90 w' w0.heap.size (fun k_ => (P0_ k_ ∨ w.heap.size ≤ k_)) u9000_ x0_1) ∧ Aside0 (Kept w w' (fun k_ => P0_ k_)) ∧ Aside0 (Below w0.heap.size w0 w'))
  case atStart => exact ⟨l0, a1, 0, rfl, rfl, H', ⟨Nat.le_refl _⟩, HO0, HK, HB⟩
  case round =>
    clear H' HO0 HK HB
    obtain ⟨x0_1, x1_1, x5_1, rfl, rfl, HA, HK1, HO, HK, HB⟩ := hrel
    cases gk with
    | zero => exact absurd HA.out (by simp [laws_markPageS.l0])
    | succ k1 =>
      have H := HA.out
      clear HA
      simp only [laws_markPageS.l0] at H
      by_cases c3 : x5_1 < (x0_1.length : Int)
      · rw [if_pos c3] at H
        by_cases c4 : 0 ≤ x5_1
        · rw [if_pos c4] at H
          obtain ⟨⟨q1, q2⟩, hq, H⟩ := Option.bind_eq_some_iff.mp H
          have H' := Aside0.mk H
          clear H
          replace hq : laws_markEntryS.f k1 (x0_1.getD x5_1.toNat z90).f1.f1 (w1 (w1 x1_1)) = some (q1, q2) := hq
          obtain ⟨Ao6, co6, eo6⟩ := Kd.S_slice HO.out
          subst eo6
          obtain ⟨go5, co5, eo5, gb5, gl5, cl5, HG5⟩ := Kd.S_form HO.out (by omega)
          injection eo5 with ea_ en_ ec_
          subst ea_
          subst ec_
          clear en_
          have hPg := Aside0.mk (show (P0_ go5 ∨ w.heap.size ≤ go5) from ((Kd.S_R HO.out).1 _ rfl))
          obtain ⟨oki, c, hcl, hM, hcc, hfr, hoki, hH⟩ := Kd.S_elem HO.out z90 x5_1 c4 c3
          generalize x0_1.getD x5_1.toNat z90 = pg at hM hq
          have HQ := Aside0.mk hq
          clear hq
          obtain ⟨v2, rfl, g2⟩ := k90_openM hM
          obtain ⟨A2, c2, ev2⟩ := Kd.R_slice g2
          subst ev2
          have hseg := Kd.H_seg (Kd.H_widen hH) c4 c3 (seg := [.bool (m3 x1_1), .bool (m3 (w1 x1_1))]) (j := 0) (show 2 ≤ 3 by decide) (by intro q hq; simp at hq; rcases hq with rfl | rfl <;> rfl)
          have HSEG := Aside0.mk hseg
          have G2 := Aside0.mk g2
          have OKI := Aside0.mk hoki
          have hx0 : wr.cell? ⟨go5, x5_1.toNat * 3, none⟩ = some _ := hcc 0 _ rfl
          have hx1 : wr.cell? ⟨go5, x5_1.toNat * 3 + 1, none⟩ = some _ := hcc 1 _ rfl
          have hx2 : wr.cell? ⟨go5, x5_1.toNat * 3 + 2, none⟩ = some _ := hcc 2 _ rfl
          have hf0 : wr.frozen? ⟨go5, x5_1.toNat * 3, none⟩ = false := hfr 0
          have hf1 : wr.frozen? ⟨go5, x5_1.toNat * 3 + 1, none⟩ = false := hfr 1
          clear hcc hfr hM hcl hseg g2 hoki hH
          have GB := Aside0.mk gb5
          clear gb5 gl5 HG5
          have c3b0 : decide (x5_1 < (x0_1.length : Int)) = true := decide_eq_true c3
          go_wp2_with (go_at_call 82; refine (laws_markEntryS.calls k1 oki _ pg.f1.f1 (w1 (w1 x1_1)) q1 q2 w0 _ (below_set (below_set HB.out GB.out) GB.out) (Kd.R_far (p := ⟨go5, x5_1.toNat * 3 + 1, none⟩) (Kd.R_far (p := ⟨go5, x5_1.toNat * 3, none⟩) G2.out (fun k hk => (OKI.out k hk).2) _) (fun k hk => (OKI.out k hk).2) _) HQ.out).mono ?_; rintro e w' ⟨rfl, ho, hb, hk⟩; have HO2 := Aside0.mk ho; have HB2 := Aside0.mk hb; have HK2 := Aside0.mk hk; clear ho hb hk)
          have hS := mark_back HSEG.out.1 HK2.out HO2.out HK.out.1 (size_set2 _ _ _ _ _)
          go_roundg k1
          case measure => have := HK1.out; omega
          case rel => exact ⟨_, _, _, rfl, rfl, H', ⟨by have := HK1.out; omega⟩, ⟨hS⟩, ⟨((HK.out.setCell hPg.out _).setCell hPg.out _).then_ HK2.out (fun k hk => (OKI.out k hk).1)⟩, HB2⟩
        · rw [if_neg c4] at H
          exact absurd H (by simp)
      · rw [if_neg c3] at H
        have c3b0 : decide (x5_1 < (x0_1.length : Int)) = false := decide_eq_false c3
        clear c3
        simp only [Option.some.injEq, Prod.mk.injEq] at H
        obtain ⟨rfl, rfl⟩ := H
        obtain ⟨Ao9, co9, eo9⟩ := Kd.S_slice HO.out
        subst eo9
        go_wp2
        go_ret
        exact ⟨rfl, HO.out, HB.out, HK.out⟩

/-! ### laws_markBook: by hand -/
def laws_markBook.f (k : Nat) (a0_0 : Int) (l0_1 : List S90) (a1 : Int) : Option (Int × List S90) := laws_markPageS.f k l0_1 a1
theorem laws_markBook.mono : ∀ a0 a1 a2 k, LeO (laws_markBook.f k a0 a1 a2) (laws_markBook.f (k + 1) a0 a1 a2) := fun a0 a1 a2 k => laws_markPageS.mono a1 a2 k
set_option maxHeartbeats 2000000 in
set_option maxRecDepth 100000 in
theorem laws_markBook.calls (k : Nat) (P0_1_ : Nat → Prop) (a0_0 : Int) (u9000_ : Value) (l0_1 : List S90) (a1 : Int) (r1 : Int) (r2 : List S90) (w0 w : World) (hB : Below w0.heap.size w0 w) (ho0 : Kd.S k90 90 w w0.heap.size P0_1_ u9000_ l0_1) (h : laws_markBook.f k a0_0 l0_1 a1 = some (r1, r2)) :
    Calls Try.prog 31 #[.agg #[.int .i64 a0_0, u9000_], .int .i64 a1] w fun e w' => e = .returned (.int .i64 r1) ∧ Kd.S k90 90 w' w0.heap.size (fun k_ => (P0_1_ k_ ∨ w.heap.size ≤ k_)) u9000_ r2 ∧ Below w0.heap.size w0 w' ∧ Kept w w' (fun k_ => P0_1_ k_) := by
  obtain ⟨Av, cv, ev⟩ := Kd.S_slice ho0
  subst ev
  have HO := Aside0.mk ho0
  have HB := Aside0.mk hB
  have H' := Aside0.mk h
  clear hB ho0 h
  have hu2 := Try.underlying49
  go_enter Try.func31, Try.ntmps31
  go_wp2_with (first
    | ((with_reducible refine gate_dst (N := 2) rfl ?_); refine box_event ?hg (N := 2) ?hd (cs := #[.int .i64 a0_0, .slice Av l0_1.length cv]) (t := 49) ?hr ?_; (case hd => rfl); (case hg => rfl); (case hr => first | (go_simp; done) | (go_simp; rfl)); intro g2 hg w2 hbox hb; have B2 := Aside0.mk hb; have hk1 : w2.cell? ⟨g2, 1, none⟩ = some (.slice Av l0_1.length cv) := (blk_cell hbox 1).trans rfl; clear hb hg hbox)
    | (go_at_call 81; refine (laws_markPageS.calls k P0_1_ _ l0_1 a1 r1 r2 w0 _ (below_step HB.out B2.out) (Kd.S_below HO.out B2.out) H'.out).mono ?_; rintro e w' ⟨rfl, ho, hb, hk⟩))
  go_ret
  exact ⟨rfl, Kd.S_mono ho (fun k hk => hk.elim .inl (fun h => .inr (Nat.le_trans B2.out.size h))), hb, (Kept.of_below B2.out _).then_ hk (fun k hk => .inl hk)⟩

end Go.Proofs.Ytngjaajcdbodeaa.All

namespace Go.Proofs.Ytngjaajcdbodeaa.All
open Go.RowKit Go.Proofs.YtngjaajcdbodeaaW.PrintWords Go.Proofs.YtngjaajcdbodeaaW.PrintLast Go.Proofs.YtngjaajcdbodeaaW.PrintMore
attribute [local go_sem] max2_int min2_int max_two min_two max_three min_three max_four min_four   -- for this text's walks alone
set_option linter.unusedVariables false
set_option linter.unusedSimpArgs false

/-! ### impl_exists: function 77 -/
def impl_exists.f (a0_0 : Int) (l0_1 : List (S90)) (a1 : Int) : Option (Bool) := if a1 ≥ 0 then (some (decide (a1 < (l0_1.length : Int)))) else (some false)
set_option maxHeartbeats 8000000 in
set_option maxRecDepth 100000 in
theorem impl_exists.calls (a0_0 : Int) (A0_1 : Option Addr) (c0_1 : Nat) (l0_1 : List (S90)) (a1 : Int) (r : Bool) (w : World) (hr0_1 : Kd.C k90 w A0_1 l0_1.length l0_1) (hc0_1 : l0_1.length ≤ c0_1) (h : impl_exists.f a0_0 l0_1 a1 = some r) :
    Calls Try.prog 77 #[.agg #[.int .i64 a0_0, .slice A0_1 l0_1.length c0_1], .int .i64 a1] w fun e w' => e = .returned (.bool r) ∧ Below w.heap.size w w' := by
  have hu49 := Try.underlying49
  have HR0_1 := Aside0.mk hr0_1
  have HC0_1 := Aside0.mk hc0_1
  clear hr0_1 hc0_1
  have HB := Aside0.mk (Below.refl w.heap.size w)
  have H : (if a1 ≥ 0 then (some (decide (a1 < (l0_1.length : Int)))) else (some false)) = some r := h
  clear h
  by_cases c3 : a1 ≥ 0
  · rw [if_pos c3] at H
    have c3b0 : decide (0 ≤ a1) = true := decide_eq_true c3
    clear c3
    obtain rfl := Option.some.inj H
    go_enter Try.func77, Try.ntmps77
    go_wp2_with (first | ((with_reducible refine gate_dst (N := 2) rfl ?_); (try (refine gate_guard (by rfl) ?_; dsimp only)); refine box_event ?hg (N := 2) ?hd (cs := #[.int .i64 a0_0, .slice A0_1 l0_1.length c0_1]) (t := 49) ?hr ?_; (case hd => rfl); (case hg => rfl); (case hr => first | (go_simp; done) | (go_simp; rfl)); intro gb341 hg w4 hbox hb; have n0_ := Aside0.mk (below_step (by repeat (first | (with_reducible first | exact HB.out | apply below_alloc | apply pw_below_drewN | apply below_drew1) | exact HB.out)) hb); have n1_ := Aside0.mk (hbox); have n2_ := Aside0.mk ((by rw [hg]; exact (below_size (by repeat (first | (with_reducible first | exact HB.out | apply below_alloc | apply pw_below_drewN | apply below_drew1) | exact HB.out))) : w.heap.size ≤ gb341)); have n3_ := Aside0.mk ((by rw [hg]; exact (below_size (by repeat (first | (with_reducible first | exact HB.out | apply below_alloc | apply pw_below_drewN | apply below_drew1) | exact HB.out))) : w.heap.size ≤ gb341)); clear HB; have HB := n0_; have BK341 := n1_; have GW341 := n2_; have GE341 := n3_; clear n0_ n1_ n2_ n3_; clear hb hbox hg; have hcz5_0 : w4.cell? ⟨gb341, 0, none⟩ = some (.int .i64 a0_0) := (blk_cell BK341.out 0).trans rfl; have hcz5_1 : w4.cell? ⟨gb341, 1, none⟩ = some (.slice A0_1 l0_1.length c0_1) := (blk_cell BK341.out 1).trans rfl; have hfz5_0 := blk_frozen BK341.out 0; have hfz5_1 := blk_frozen BK341.out 1))
    go_ret
    exact ⟨by first | rfl | (simp [errW_none, errW_some] <;> rfl) | (simp [*, errW_none, errW_some] <;> rfl), by repeat (first | (with_reducible first | exact HB.out | apply below_alloc | apply pw_below_drewN | apply below_drew1 | refine below_set ?_ GE341.out) | exact HB.out)⟩
  · rw [if_neg c3] at H
    have c3b0 : decide (0 ≤ a1) = false := decide_eq_false c3
    clear c3
    obtain rfl := Option.some.inj H
    go_enter Try.func77, Try.ntmps77
    go_wp2_with (first | ((with_reducible refine gate_dst (N := 2) rfl ?_); (try (refine gate_guard (by rfl) ?_; dsimp only)); refine box_event ?hg (N := 2) ?hd (cs := #[.int .i64 a0_0, .slice A0_1 l0_1.length c0_1]) (t := 49) ?hr ?_; (case hd => rfl); (case hg => rfl); (case hr => first | (go_simp; done) | (go_simp; rfl)); intro gb341 hg w6 hbox hb; have n0_ := Aside0.mk (below_step (by repeat (first | (with_reducible first | exact HB.out | apply below_alloc | apply pw_below_drewN | apply below_drew1) | exact HB.out)) hb); have n1_ := Aside0.mk (hbox); have n2_ := Aside0.mk ((by rw [hg]; exact (below_size (by repeat (first | (with_reducible first | exact HB.out | apply below_alloc | apply pw_below_drewN | apply below_drew1) | exact HB.out))) : w.heap.size ≤ gb341)); have n3_ := Aside0.mk ((by rw [hg]; exact (below_size (by repeat (first | (with_reducible first | exact HB.out | apply below_alloc | apply pw_below_drewN | apply below_drew1) | exact HB.out))) : w.heap.size ≤ gb341)); clear HB; have HB := n0_; have BK341 := n1_; have GW341 := n2_; have GE341 := n3_; clear n0_ n1_ n2_ n3_; clear hb hbox hg))
    go_ret
    exact ⟨by first | rfl | (simp [errW_none, errW_some] <;> rfl) | (simp [*, errW_none, errW_some] <;> rfl), by repeat (first | (with_reducible first | exact HB.out | apply below_alloc | apply pw_below_drewN | apply below_drew1 | refine below_set ?_ GE341.out) | exact HB.out)⟩

end Go.Proofs.Ytngjaajcdbodeaa.All

namespace Go.Proofs.Ytngjaajcdbodeaa.All
open Go.RowKit Go.Proofs.YtngjaajcdbodeaaW.PrintWords Go.Proofs.YtngjaajcdbodeaaW.PrintLast Go.Proofs.YtngjaajcdbodeaaW.PrintMore
attribute [local go_sem] max2_int min2_int max_two min_two max_three min_three max_four min_four   -- for this text's walks alone
set_option linter.unusedVariables false
set_option linter.unusedSimpArgs false

/-! ### impl_used: function 89 -/
def impl_used.f (a0_0 : Int) (l0_1 : List (S90)) (a1 : Int) : Option (Bool) := (impl_exists.f a0_0 l0_1 a1).bind fun t610 => (if t610 = true then (if 0 ≤ a1 then (if a1 < (l0_1.length : Int) then (some ((rd_T90 l0_1 a1).f0)) else (none)) else (none)) else (some false))
set_option maxHeartbeats 8000000 in
set_option maxRecDepth 100000 in
theorem impl_used.calls (a0_0 : Int) (A0_1 : Option Addr) (c0_1 : Nat) (l0_1 : List (S90)) (a1 : Int) (r : Bool) (w : World) (hr0_1 : Kd.C k90 w A0_1 l0_1.length l0_1) (hc0_1 : l0_1.length ≤ c0_1) (h : impl_used.f a0_0 l0_1 a1 = some r) :
    Calls Try.prog 89 #[.agg #[.int .i64 a0_0, .slice A0_1 l0_1.length c0_1], .int .i64 a1] w fun e w' => e = .returned (.bool r) ∧ Below w.heap.size w w' := by
  have hu49 := Try.underlying49
  have HR0_1 := Aside0.mk hr0_1
  have HC0_1 := Aside0.mk hc0_1
  clear hr0_1 hc0_1
  have HB := Aside0.mk (Below.refl w.heap.size w)
  have H : ((impl_exists.f a0_0 l0_1 a1).bind fun t610 => (if t610 = true then (if 0 ≤ a1 then (if a1 < (l0_1.length : Int) then (some ((rd_T90 l0_1 a1).f0)) else (none)) else (none)) else (some false))) = some r := h
  clear h
  replace H := Option.bind_eq_some_iff.mp H
  obtain ⟨t610, A30, H⟩ := H
  replace H : (if t610 = true then (if 0 ≤ a1 then (if a1 < (l0_1.length : Int) then (some ((rd_T90 l0_1 a1).f0)) else (none)) else (none)) else (some false)) = some r := H
  have A3 := Aside0.mk A30
  clear A30
  by_cases c4 : t610 = true
  · subst c4
    have H1 : (if 0 ≤ a1 then (if a1 < (l0_1.length : Int) then (some ((rd_T90 l0_1 a1).f0)) else (none)) else (none)) = some r := by rw [if_pos rfl] at H; exact H
    clear H
    have H := H1
    clear H1
    by_cases c5 : 0 ≤ a1
    · rw [if_pos c5] at H
      have c5b0 : decide (0 ≤ a1) = true := decide_eq_true c5
      clear c5
      by_cases c6 : a1 < (l0_1.length : Int)
      · rw [if_pos c6] at H
        have c6b0 : decide (a1 < (l0_1.length : Int)) = true := decide_eq_true c6
        clear c6
        obtain rfl := Option.some.inj H
        go_enter Try.func89, Try.ntmps89
        go_wp2_with (first | ((with_reducible refine gate_dst (N := 2) rfl ?_); refine box_event ?hg (N := 2) ?hd (cs := #[.int .i64 a0_0, .slice A0_1 l0_1.length c0_1]) (t := 49) ?hr ?_; (case hd => rfl); (case hg => rfl); (case hr => first | (go_simp; done) | (go_simp; rfl)); intro gb609 hg w7 hbox hb; have n0_ := Aside0.mk (below_step (by repeat (first | (with_reducible first | exact HB.out | apply below_alloc | apply pw_below_drewN | apply below_drew1) | exact HB.out)) hb); have n1_ := Aside0.mk (hbox); have n2_ := Aside0.mk ((by rw [hg]; exact (below_size (by repeat (first | (with_reducible first | exact HB.out | apply below_alloc | apply pw_below_drewN | apply below_drew1) | exact HB.out))) : w.heap.size ≤ gb609)); have n3_ := Aside0.mk ((by rw [hg]; exact (below_size (by repeat (first | (with_reducible first | exact HB.out | apply below_alloc | apply pw_below_drewN | apply below_drew1) | exact HB.out))) : w.heap.size ≤ gb609)); clear HB; have HB := n0_; have BK609 := n1_; have GW609 := n2_; have GE609 := n3_; clear n0_ n1_ n2_ n3_; clear hb hbox hg; have hcz8_0 : w7.cell? ⟨gb609, 0, none⟩ = some (.int .i64 a0_0) := (blk_cell BK609.out 0).trans rfl; have hcz8_1 : w7.cell? ⟨gb609, 1, none⟩ = some (.slice A0_1 l0_1.length c0_1) := (blk_cell BK609.out 1).trans rfl; have hfz8_0 := blk_frozen BK609.out 0; have hfz8_1 := blk_frozen BK609.out 1) | ((with_reducible refine gate_callee (f := 77) rfl ?_); refine goesL_ (some 7) rfl rfl Try.func77 (by kernel_rfl) rfl #[.agg #[.int .i64 a0_0, .slice A0_1 l0_1.length c0_1], .int .i64 a1] rfl (by (try simp only [List.map_toArray, List.map_cons, List.map_nil]); first | done | rfl | (simp only [List.length_drop, List.length_take]; rfl)) ?_; (with_reducible refine (impl_exists.calls a0_0 _ _ l0_1 a1 true _ ?side1 ?side2 A3.out).mono ?_); (case side1 => repeat (first | exact (Kd.C_below HR0_1.out HB.out) | (with_reducible refine Kd.C_alloc ?_ _) | (with_reducible refine Kd.C_drewN ?_ _) | (with_reducible refine Kd.C_drew ?_))); (case side2 => exact HC0_1.out); rintro e w9 ⟨rfl, hb⟩; refine ⟨_, rfl, ?_⟩; have n0_ := Aside0.mk (blk_below (g := gb609) (o := .cells #[.int .i64 a0_0, .slice A0_1 l0_1.length c0_1] 49 (0, 0)) (by (with_reducible repeat (first | refine blk_drewN ?_ _ | refine blk_drew ?_ | refine blk_alloc ?_ _)); exact BK609.out) hb); have n1_ := Aside0.mk (below_step (by repeat (first | (with_reducible first | exact HB.out | apply below_alloc | apply pw_below_drewN | apply below_drew1 | refine below_set ?_ GE609.out) | exact HB.out)) hb); clear BK609; clear HB; have BK609 := n0_; have HB := n1_; clear n0_ n1_; (try clear hb); (try clear hb2); (try clear hk); (try clear hi); have hcz10_0 : w9.cell? ⟨gb609, 0, none⟩ = some (.int .i64 a0_0) := (blk_cell BK609.out 0).trans rfl; have hcz10_1 : w9.cell? ⟨gb609, 1, none⟩ = some (.slice A0_1 l0_1.length c0_1) := (blk_cell BK609.out 1).trans rfl; have hfz10_0 := blk_frozen BK609.out 0; have hfz10_1 := blk_frozen BK609.out 1; have p611 : 0 ≤ (a1 : Int) := of_decide_eq_true (by first | (with_reducible assumption) | assumption); have q611 : a1 < (l0_1.length : Int) := of_decide_eq_true (by first | (with_reducible assumption) | assumption); obtain ⟨ad611, A611_2, c611_2, e611, hx611_0, hx611_1, hx611_2, hl611_2, hi611_2⟩ := at_T90 HR0_1.out a1 p611 q611; cases e611; replace hx611_0 := (HB.out.cell (World.block_lt_of_cell? w _ hx611_0)).trans hx611_0; replace hx611_1 := (HB.out.cell (World.block_lt_of_cell? w _ hx611_1)).trans hx611_1; replace hx611_2 := (HB.out.cell (World.block_lt_of_cell? w _ hx611_2)).trans hx611_2; have HR611_2 := Aside0.mk hi611_2; have HC611_2 := Aside0.mk hl611_2; clear hi611_2 hl611_2; replace p611 := eq_true p611; replace q611 := eq_true q611))
        go_ret
        exact ⟨by first | rfl | (simp [errW_none, errW_some] <;> rfl) | (simp [*, errW_none, errW_some] <;> rfl), by repeat (first | (with_reducible first | exact HB.out | apply below_alloc | apply pw_below_drewN | apply below_drew1 | refine below_set ?_ GE609.out) | exact HB.out)⟩
      · rw [if_neg c6] at H
        exact absurd H (by simp)
    · rw [if_neg c5] at H
      exact absurd H (by simp)
  · replace c4 := Bool.eq_false_iff.mpr c4
    subst c4
    have H1 : (some false) = some r := by rw [if_neg (show ¬ (false = true) by decide)] at H; exact H
    clear H
    have H := H1
    clear H1
    obtain rfl := Option.some.inj H
    go_enter Try.func89, Try.ntmps89
    go_wp2_with (first | ((with_reducible refine gate_dst (N := 2) rfl ?_); refine box_event ?hg (N := 2) ?hd (cs := #[.int .i64 a0_0, .slice A0_1 l0_1.length c0_1]) (t := 49) ?hr ?_; (case hd => rfl); (case hg => rfl); (case hr => first | (go_simp; done) | (go_simp; rfl)); intro gb609 hg w11 hbox hb; have n0_ := Aside0.mk (below_step (by repeat (first | (with_reducible first | exact HB.out | apply below_alloc | apply pw_below_drewN | apply below_drew1) | exact HB.out)) hb); have n1_ := Aside0.mk (hbox); have n2_ := Aside0.mk ((by rw [hg]; exact (below_size (by repeat (first | (with_reducible first | exact HB.out | apply below_alloc | apply pw_below_drewN | apply below_drew1) | exact HB.out))) : w.heap.size ≤ gb609)); have n3_ := Aside0.mk ((by rw [hg]; exact (below_size (by repeat (first | (with_reducible first | exact HB.out | apply below_alloc | apply pw_below_drewN | apply below_drew1) | exact HB.out))) : w.heap.size ≤ gb609)); clear HB; have HB := n0_; have BK609 := n1_; have GW609 := n2_; have GE609 := n3_; clear n0_ n1_ n2_ n3_; clear hb hbox hg; have hcz12_0 : w11.cell? ⟨gb609, 0, none⟩ = some (.int .i64 a0_0) := (blk_cell BK609.out 0).trans rfl; have hcz12_1 : w11.cell? ⟨gb609, 1, none⟩ = some (.slice A0_1 l0_1.length c0_1) := (blk_cell BK609.out 1).trans rfl; have hfz12_0 := blk_frozen BK609.out 0; have hfz12_1 := blk_frozen BK609.out 1) | ((with_reducible refine gate_callee (f := 77) rfl ?_); refine goesL_ (some 7) rfl rfl Try.func77 (by kernel_rfl) rfl #[.agg #[.int .i64 a0_0, .slice A0_1 l0_1.length c0_1], .int .i64 a1] rfl (by (try simp only [List.map_toArray, List.map_cons, List.map_nil]); first | done | rfl | (simp only [List.length_drop, List.length_take]; rfl)) ?_; (with_reducible refine (impl_exists.calls a0_0 _ _ l0_1 a1 false _ ?side1 ?side2 A3.out).mono ?_); (case side1 => repeat (first | exact (Kd.C_below HR0_1.out HB.out) | (with_reducible refine Kd.C_alloc ?_ _) | (with_reducible refine Kd.C_drewN ?_ _) | (with_reducible refine Kd.C_drew ?_))); (case side2 => exact HC0_1.out); rintro e w13 ⟨rfl, hb⟩; refine ⟨_, rfl, ?_⟩; have n0_ := Aside0.mk (blk_below (g := gb609) (o := .cells #[.int .i64 a0_0, .slice A0_1 l0_1.length c0_1] 49 (0, 0)) (by (with_reducible repeat (first | refine blk_drewN ?_ _ | refine blk_drew ?_ | refine blk_alloc ?_ _)); exact BK609.out) hb); have n1_ := Aside0.mk (below_step (by repeat (first | (with_reducible first | exact HB.out | apply below_alloc | apply pw_below_drewN | apply below_drew1 | refine below_set ?_ GE609.out) | exact HB.out)) hb); clear BK609; clear HB; have BK609 := n0_; have HB := n1_; clear n0_ n1_; (try clear hb); (try clear hb2); (try clear hk); (try clear hi)))
    go_ret
    exact ⟨by first | rfl | (simp [errW_none, errW_some] <;> rfl) | (simp [*, errW_none, errW_some] <;> rfl), by repeat (first | (with_reducible first | exact HB.out | apply below_alloc | apply pw_below_drewN | apply below_drew1 | refine below_set ?_ GE609.out) | exact HB.out)⟩

end Go.Proofs.Ytngjaajcdbodeaa.All

/- The program's walk over the pages, by a closure over a map and a row: it comes to the model of the reference's walk. No condition. -/
namespace Go.Proofs.Ytngjaajcdbodeaa.All
open Go.RowKit Go.Proofs.YtngjaajcdbodeaaW.PrintWords Go.Proofs.YtngjaajcdbodeaaW.PrintLast Go.Proofs.YtngjaajcdbodeaaW.PrintMore
set_option linter.unusedVariables false
set_option linter.unusedSimpArgs false

/-- Block b is the map of those that were met. -/
def MetOk (w : World) (b : Nat) (out : List Int) : Prop := ∃ (n : Nat) (D : DataW Unit), n ≤ out.length ∧ Go.Maps.IsMap D ∧ w.ownsMap Try.prog 3 (plainElem Try.prog 3) b n D ∧ ∀ i, (Lit.int .i64 i).wf = true → D.atKey (.int .i64 i) (.lit (.int .i64 0)) = .lit (.int .i64 (if i ∈ out then 1 else 0))
theorem MetOk.step {w w' : World} {b : Nat} {out : List Int} (h : MetOk w b out) (he : w'.heap[b]? = w.heap[b]?) : MetOk w' b out := by
  obtain ⟨n, D, h1, h2, ⟨es, clock, hb, hr⟩, h4⟩ := h
  exact ⟨n, D, h1, h2, ⟨es, clock, he.trans hb, hr⟩, h4⟩
theorem MetOk.isMap {w : World} {b : Nat} {out : List Int} (h : MetOk w b out) : ∃ es clock, w.heap[b]? = some (.map es clock) := by
  obtain ⟨n, D, h1, h2, ⟨es, clock, hb, hr⟩, h4⟩ := h
  exact ⟨es, clock, hb⟩
theorem MetOk.made (w : World) : MetOk (w.alloc (.map #[] 0)) w.heap.size [] := ⟨0, .map [], Nat.le_refl _, ⟨[], rfl⟩, World.ownsMap_made w _ _ _, fun i _ => rfl⟩
theorem MetOk.put {w' : World} {b : Nat} {out : List Int} {i : Int} {n : Nat} {D : DataW Unit} (hn : n ≤ out.length) (hm : Go.Maps.IsMap D) (h : w'.ownsMap Try.prog 3 (plainElem Try.prog 3) b (n + 1) (D.put (.int .i64 i) (.lit (.int .i64 1)))) (ha : ∀ i, (Lit.int .i64 i).wf = true → D.atKey (.int .i64 i) (.lit (.int .i64 0)) = .lit (.int .i64 (if i ∈ out then 1 else 0))) : MetOk w' b (out ++ [i]) := by
  refine ⟨n + 1, _, by simp; omega, ?_, h, fun j hj => ?_⟩
  · obtain ⟨es, rfl⟩ := hm
    exact ⟨_, DataW.put_eq _ _ _⟩
  · by_cases hji : j = i
    · subst hji
      rw [Go.Maps.atKey_put_same hm (show WideAt.IsKeyLit (.int .i64 j) from trivial)]
      simp
    · rw [Go.Maps.atKey_put_other (fun e => hji (by injection e)), ha j hj]
      simp [hji]
/-- What stands while the walk goes on. -/
structure VState (w0 : World) (g2 g5 g6 g7 bm : Nat) (root : Int) (A : Option Addr) (c n : Nat) (w : World) (out mo : List Int) : Prop where
  below : Below w0.heap.size w0 w
  box : w.heap[g2]? = some (.cells #[.int .i64 root, .slice A n c] 49 (0, 0))
  met : w.heap[g6]? = some (.cells #[.map (some bm)] 104 (0, 0))
  row : ∃ A v c, v = .slice A out.length c ∧ w.heap[g5]? = some (.cells #[v] 64 (0, 0)) ∧ Kd.R (Kd.int .i64) 3 w w0.heap.size (fun _ => True) v out
  fn : w.heap[g7]? = some (.cells #[.func (.func 144) #[] #[.pointer (some ⟨g2, 0, none⟩), .pointer (some ⟨g6, 0, none⟩), .pointer (some ⟨g5, 0, none⟩), .pointer (some ⟨g7, 0, none⟩)]] 137 (0, 0))
  map : MetOk w bm mo
  g5b : w0.heap.size ≤ g5
  bmb : w0.heap.size ≤ bm
section
variable {w0 : World} {g2 g5 g6 g7 bm : Nat} {root : Int} {A : Option Addr} {c n : Nat} {w w' : World} {out mo mo' : List Int}
theorem VState.next (h : VState w0 g2 g5 g6 g7 bm root A c n w out mo) (hb : Below w.heap.size w w') : VState w0 g2 g5 g6 g7 bm root A c n w' out mo := by
  obtain ⟨Av, v, cv, ev, h5, hr⟩ := h.row
  obtain ⟨es, clock, hm⟩ := h.map.isMap
  exact ⟨below_step h.below hb, blk_below h.box hb, blk_below h.met hb, ⟨Av, v, cv, ev, blk_below h5 hb, Kd.R_below hr hb⟩, blk_below h.fn hb, h.map.step ((blk_below hm hb).trans hm.symm), h.g5b, h.bmb⟩
theorem VState.drewN (h : VState w0 g2 g5 g6 g7 bm root A c n w out mo) (m : Nat) : VState w0 g2 g5 g6 g7 bm root A c n (w.drewN m) out mo := h.next (pw_below_drewN (Below.refl _ _) m)
theorem blkNe {g g' : Nat} {t t' : TypeId} {cs cs' : Array Value} (h : w.heap[g]? = some (.cells cs t (0, 0))) (h' : w.heap[g']? = some (.cells cs' t' (0, 0))) (hne : t ≠ t') : g ≠ g' := by
  rintro rfl
  rw [h] at h'
  injection h' with h'
  injection h' with _ ht
  exact hne ht
theorem cells_ne_map {g b : Nat} {cs : Array Value} {t : TypeId} {fr : Nat × Nat} {es : Array _} {clock : Nat} (hc : w.heap[g]? = some (.cells cs t fr)) (hm : w.heap[b]? = some (.map es clock)) : some g ≠ some b := by
  intro e
  injection e with e
  subst e
  rw [hc] at hm
  cases hm
theorem VState.put (h : VState w0 g2 g5 g6 g7 bm root A c n w out mo) (hg : w.grownBy w' (some bm)) (hm : MetOk w' bm mo') : VState w0 g2 g5 g6 g7 bm root A c n w' out mo' := by
  obtain ⟨Av, v, cv, ev, h5, hr⟩ := h.row
  obtain ⟨es, clock, hmm⟩ := h.map.isMap
  refine ⟨h.below.grown hg h.below.size (fun k hk => ?_), blk_grown h.box hg (cells_ne_map h.box hmm), blk_grown h.met hg (cells_ne_map h.met hmm), ⟨Av, v, cv, ev, blk_grown h5 hg (cells_ne_map h5 hmm), ?_⟩, blk_grown h.fn hg (cells_ne_map h.fn hmm), hm, h.g5b, h.bmb⟩
  · injection hk with hk
    rw [← hk]
    exact h.bmb
  · refine Kd.R_mono (Kd.R_step (Kd.R_bound hr) (fun k hk hlt => hg.block k hlt ?_)) (fun _ _ => trivial)
    obtain ⟨_, _, _, q, hq, cells, hc⟩ := hk
    exact cells_ne_map hc hmm
theorem VState.app (h : VState w0 g2 g5 g6 g7 bm root A c n w out mo) {v v5 : Value} {xs : List Int} (hcell : w.heap[g5]? = some (.cells #[v] 64 (0, 0))) (hv : Kd.R (Kd.int .i64) 3 w w0.heap.size (fun _ => True) v out) (hg : w.grownBy w' v.ownBlock) (hb : Below w0.heap.size w0 w') (hr : Kd.R (Kd.int .i64) 3 w' w0.heap.size (fun _ => True) v5 xs) :
    VState w0 g2 g5 g6 g7 bm root A c n (w'.setCell ⟨g5, 0, none⟩ v5) xs mo := by
  obtain ⟨es, clock, hmm⟩ := h.map.isMap
  obtain ⟨A5, c5, e5⟩ := Kd.R_slice hr
  have k2 := blk_grown h.box hg (Kd.R_ne hv h.box (by decide))
  have k6 := blk_grown h.met hg (Kd.R_ne hv h.met (by decide))
  have k5 := blk_grown hcell hg (Kd.R_ne hv hcell (by decide))
  have k7 := blk_grown h.fn hg (Kd.R_ne hv h.fn (by decide))
  have km : w'.heap[bm]? = w.heap[bm]? := hg.block bm (blk_lt hmm) (fun e => by
    obtain ⟨inner, ho⟩ := Kd.R_own hv
    obtain ⟨cells, hc⟩ := Kd.R_typed hv bm e.symm
    exact cells_ne_map hc hmm rfl)
  have far : ∀ {g : Nat}, g ≠ g5 → (w'.setCell ⟨g5, 0, none⟩ v5).heap[g]? = w'.heap[g]? := fun hne => Below.heap_setCell w' _ v5 _ hne
  exact ⟨below_set hb h.g5b, (far (blkNe k2 k5 (by decide))).trans k2, (far (blkNe k6 k5 (by decide))).trans k6, ⟨A5, v5, c5, e5, blk_put k5 0 v5 rfl, Kd.R_mono (Kd.R_far (Kd.R_types hr k5 (by decide)) (fun _ hk => hk.2) v5) (fun _ _ => trivial)⟩,
    (far (blkNe k7 k5 (by decide))).trans k7, h.map.step ((far (fun e => cells_ne_map hcell hmm (by rw [e]))).trans km), h.g5b, h.bmb⟩
end

def VisitSaid (w0 : World) (g2 g5 g6 g7 bm : Nat) (root : Int) (A : Option Addr) (c : Nat) (ps : List S90) (k : Nat) : Prop :=
  ∀ (i : Int) (xs r : List Int) (w : World), VState w0 g2 g5 g6 g7 bm root A c ps.length w xs xs → walkM k ps i xs = some r →
    Calls Try.prog 144 #[.int .i64 i, .pointer (some ⟨g2, 0, none⟩), .pointer (some ⟨g6, 0, none⟩), .pointer (some ⟨g5, 0, none⟩), .pointer (some ⟨g7, 0, none⟩)] w (fun e w' => ∃ v, e = .returned v ∧ VState w0 g2 g5 g6 g7 bm root A c ps.length w' r r)


theorem used_f (a : Int) (ps : List S90) (i : Int) : impl_used.f a ps i = some (decide (pgOk ps i)) := by
  unfold impl_used.f impl_exists.f pgOk
  by_cases h0 : i ≥ 0
  · rw [if_pos h0]
    simp only [Option.bind_some]
    by_cases h1 : i < ps.length
    · simp only [h1, decide_true, if_true]
      rw [if_pos (by omega)]
      simp [show (0 : Int) ≤ i from h0]
    · simp [h1]
  · rw [if_neg h0]
    simp [h0]

set_option maxHeartbeats 8000000 in
set_option maxRecDepth 100000 in
theorem visit_out (w0 : World) (g2 g5 g6 g7 bm : Nat) (A : Option Addr) (c : Nat) (ps : List S90) (hr0 : Kd.C k90 w0 A ps.length ps) (hc0 : ps.length ≤ c)
    (root i : Int) (xs : List Int) (w : World) (hv : VState w0 g2 g5 g6 g7 bm root A c ps.length w xs xs) (hno : ¬ pgOk ps i) :
    Calls Try.prog 144 #[.int .i64 i, .pointer (some ⟨g2, 0, none⟩), .pointer (some ⟨g6, 0, none⟩), .pointer (some ⟨g5, 0, none⟩), .pointer (some ⟨g7, 0, none⟩)] w (fun e w' => ∃ v, e = .returned v ∧ VState w0 g2 g5 g6 g7 bm root A c ps.length w' xs xs) := by
  have HR := Aside0.mk hr0
  have HC := Aside0.mk hc0
  have HV := Aside0.mk hv
  have HU := Aside0.mk ((used_f root ps i).trans (congrArg some (decide_eq_false hno)))
  clear hr0 hc0 hv hno
  have hu1 := Try.underlying90
  have hu2 := Try.underlying49
  have hk0 : w.cell? ⟨g2, 0, none⟩ = some (.int .i64 root) := (blk_cell HV.out.box 0).trans rfl
  have hk1 : w.cell? ⟨g2, 1, none⟩ = some (.slice A ps.length c) := (blk_cell HV.out.box 1).trans rfl
  go_enter Try.func144, Try.ntmps144
  go_wp2_with (go_at_call 89; refine (impl_used.calls root _ c ps i _ _ (Kd.C_below HR.out HV.out.below) HC.out HU.out).mono ?_; rintro e w1 ⟨rfl, hb1⟩; have HV1 := Aside0.mk (HV.out.next hb1); clear hb1 hk0 hk1 HV)
  refine bodyPost_ret (results_none rfl _ _ _) rfl ?_
  exact ⟨_, rfl, HV1.out⟩

theorem zero_int (w : World) : (zeroValue 3).run Try.prog w = .ok (.int .i64 0) w := by kernel_rfl
theorem look_eq {D : DataW Unit} {i c m : Int} (h : D.atKey (.int .i64 i) (.lit (.int .i64 0)) = .lit (.int .i64 m)) (hc : D.atKey (.int .i64 i) (.lit (.int .i64 0)) = .lit (.int .i64 c)) : c = m := by
  rw [h] at hc
  injection hc with hc
  injection hc with _ hc
  exact hc.symm
set_option maxHeartbeats 8000000 in
set_option maxRecDepth 100000 in
theorem visit_met (w0 : World) (g2 g5 g6 g7 bm : Nat) (A : Option Addr) (c : Nat) (ps : List S90) (hr0 : Kd.C k90 w0 A ps.length ps) (hc0 : ps.length ≤ c)
    (root i : Int) (xs : List Int) (w : World) (hv : VState w0 g2 g5 g6 g7 bm root A c ps.length w xs xs) (hyes : pgOk ps i) (hwf : (Lit.int .i64 i).wf = true) (hin : i ∈ xs) :
    Calls Try.prog 144 #[.int .i64 i, .pointer (some ⟨g2, 0, none⟩), .pointer (some ⟨g6, 0, none⟩), .pointer (some ⟨g5, 0, none⟩), .pointer (some ⟨g7, 0, none⟩)] w (fun e w' => ∃ v, e = .returned v ∧ VState w0 g2 g5 g6 g7 bm root A c ps.length w' xs xs) := by
  have HR := Aside0.mk hr0
  have HC := Aside0.mk hc0
  have HV := Aside0.mk hv
  have HU := Aside0.mk ((used_f root ps i).trans (congrArg some (decide_eq_true hyes)))
  have HIN := Aside0.mk hin
  have HWF := Aside0.mk hwf
  clear hr0 hc0 hv hyes hin hwf
  have hu1 := Try.underlying90
  have hu2 := Try.underlying49
  have hk0 : w.cell? ⟨g2, 0, none⟩ = some (.int .i64 root) := (blk_cell HV.out.box 0).trans rfl
  have hk1 : w.cell? ⟨g2, 1, none⟩ = some (.slice A ps.length c) := (blk_cell HV.out.box 1).trans rfl
  go_enter Try.func144, Try.ntmps144
  go_wp2_with (first
    | (go_at_call 89; refine (impl_used.calls root _ c ps i _ _ (Kd.C_below HR.out HV.out.below) HC.out HU.out).mono ?_; rintro e w1 ⟨rfl, hb1⟩; have HV1 := Aside0.mk (HV.out.next hb1); clear hb1 hk0 hk1 HV; have hk6 : w1.cell? ⟨g6, 0, none⟩ = some (.map (some bm)) := (blk_cell HV1.out.met 0).trans rfl; obtain ⟨nm, Dm, hnm, him, hom, hcm⟩ := HV1.out.map; have HNM := Aside0.mk hnm; have HIM := Aside0.mk him; have HOM := Aside0.mk hom; have HCM := Aside0.mk hcm; clear hnm him hom hcm) | ((try (refine gate_guard (by rfl) ?_; dsimp only)); at_lookup; refine wpList_lookup_own_int _ rfl _ _ 104 rfl 3 3 .i64 (Go.Maps.int_keyed Try.underlying3) Try.underlying104 Try.underlying3 (zero_int _) bm nm Dm rfl HOM.out _ _ rfl (Go.Maps.keyOf_int_mk Try.underlying3 HWF.out) ?_; intro cm hat hwc; obtain rfl : cm = 1 := (look_eq (HCM.out i HWF.out) hat).trans (if_pos HIN.out); clear hat hwc))
  refine bodyPost_ret (results_none rfl _ _ _) rfl ?_
  exact ⟨_, rfl, HV1.out⟩

theorem walkL_leaf {k : Nat} {ps : List S90} {es : List S103} {o r : List Int} {x : Int} (h : walkL k ps true es o x = some r) : r = o := by
  cases k with
  | zero => simp [walkL] at h
  | succ k =>
    rw [walkL, if_pos rfl] at h
    split at h <;> exact (Option.some.inj h).symm
theorem set5_below {W w7 : World} {g : Nat} (h : Below W.heap.size W w7) (hg : g = W.heap.size) (a b c d e : Value) : Below W.heap.size W (((((w7.setCell ⟨g, 0, none⟩ a).setCell ⟨g, 1, none⟩ b).setCell ⟨g, 2, none⟩ c).setCell ⟨g, 3, none⟩ d).setCell ⟨g, 4, none⟩ e) := by
  have hl := Nat.le_of_eq hg.symm
  exact below_set (below_set (below_set (below_set (below_set h hl) hl) hl) hl) hl
theorem VState.fncell {w0 : World} {g2 g5 g6 g7 bm : Nat} {root : Int} {A : Option Addr} {c n : Nat} {w : World} {out mo : List Int} (h : VState w0 g2 g5 g6 g7 bm root A c n w out mo) : w.cell? ⟨g7, 0, none⟩ = some (.func (.func 144) #[] #[.pointer (some ⟨g2, 0, none⟩), .pointer (some ⟨g6, 0, none⟩), .pointer (some ⟨g5, 0, none⟩), .pointer (some ⟨g7, 0, none⟩)]) := (blk_cell h.fn 0).trans rfl
theorem set5_cell {w7 : World} {g t : Nat} {z0 z1 z2 z3 z4 : Value} (h : w7.heap[g]? = some (.cells #[z0, z1, z2, z3, z4] t (0, 0))) (a b c d e : Value) : (((((w7.setCell ⟨g, 0, none⟩ a).setCell ⟨g, 1, none⟩ b).setCell ⟨g, 2, none⟩ c).setCell ⟨g, 3, none⟩ d).setCell ⟨g, 4, none⟩ e).cell? ⟨g, 0, none⟩ = some a := by
  have h1 := blk_put (cs' := #[a, z1, z2, z3, z4]) h 0 a rfl
  have h2 := blk_put (cs' := #[a, b, z2, z3, z4]) h1 1 b rfl
  have h3 := blk_put (cs' := #[a, b, c, z3, z4]) h2 2 c rfl
  have h4 := blk_put (cs' := #[a, b, c, d, z4]) h3 3 d rfl
  have h5 := blk_put (cs' := #[a, b, c, d, e]) h4 4 e rfl
  exact (blk_cell h5 0).trans rfl
theorem store5_run (o : Oper) (a : Act) (p v : Tmp) (hop : o.op = .store 103 (.tmp p) (.tmp v)) (g : Nat) (w7 : World) (b0 b1 b2 b3 b4 : Int) (hp : a.eval (.tmp p) = .pointer (some ⟨g, 0, none⟩)) (hv : a.eval (.tmp v) = .agg #[.int .i64 b0, .int .i64 b1, .int .i64 b2, .int .i64 b3, .int .i64 b4])
    (hbox : w7.heap[g]? = some (.cells #[.int .i64 0, .int .i64 0, .int .i64 0, .int .i64 0, .int .i64 0] 103 (0, 0))) :
    (execOp a.eval o).run Try.prog w7 = .ok .skip (((((w7.setCell ⟨g, 0, none⟩ (.int .i64 b0)).setCell ⟨g, 1, none⟩ (.int .i64 b1)).setCell ⟨g, 2, none⟩ (.int .i64 b2)).setCell ⟨g, 3, none⟩ (.int .i64 b3)).setCell ⟨g, 4, none⟩ (.int .i64 b4)) := by
  have hu1 := Try.underlying103
  have hs0 : w7.cell? ⟨g, 0, none⟩ = some (.int .i64 0) := (blk_cell hbox 0).trans rfl
  have hs1 : w7.cell? ⟨g, 1, none⟩ = some (.int .i64 0) := (blk_cell hbox 1).trans rfl
  have hs2 : w7.cell? ⟨g, 2, none⟩ = some (.int .i64 0) := (blk_cell hbox 2).trans rfl
  have hs3 : w7.cell? ⟨g, 3, none⟩ = some (.int .i64 0) := (blk_cell hbox 3).trans rfl
  have hs4 : w7.cell? ⟨g, 4, none⟩ = some (.int .i64 0) := (blk_cell hbox 4).trans rfl
  have hf0 := blk_frozen hbox 0
  have hf1 := blk_frozen hbox 1
  have hf2 := blk_frozen hbox 2
  have hf3 := blk_frozen hbox 3
  have hf4 := blk_frozen hbox 4
  clear hbox
  unfold execOp
  rw [hop]
  simp only [hp, hv]
  clear hop hp hv
  first | (go_simp; done) | (go_simp; rfl)
theorem hinfoInt5 : (Try.prog.info? 3).map (fun i => (i.zero, i.size, i.bytes)) = some (some (.int .i64 0), 1, 8) := hinfoInt
set_option maxHeartbeats 16000000 in
set_option maxRecDepth 100000 in
theorem visit_new (w0 : World) (g2 g5 g6 g7 bm : Nat) (A : Option Addr) (c : Nat) (ps : List S90) (hr0 : Kd.C k90 w0 A ps.length ps) (hc0 : ps.length ≤ c)
    (root i : Int) (xs : List Int) (w : World) (hv : VState w0 g2 g5 g6 g7 bm root A c ps.length w xs xs) (hyes : pgOk ps i) (hwf : (Lit.int .i64 i).wf = true) (hin : ¬ i ∈ xs) (hlen : xs.length < 17592186044415)
    (k : Nat) (ih : ∀ k', k' ≤ k → VisitSaid w0 g2 g5 g6 g7 bm root A c ps k') (r : List Int) (h : walkL k ps (rd_T90 ps i).f1.f0 (rd_T90 ps i).f1.f1 (xs ++ [i]) 0 = some r) :
    Calls Try.prog 144 #[.int .i64 i, .pointer (some ⟨g2, 0, none⟩), .pointer (some ⟨g6, 0, none⟩), .pointer (some ⟨g5, 0, none⟩), .pointer (some ⟨g7, 0, none⟩)] w (fun e w' => ∃ v, e = .returned v ∧ VState w0 g2 g5 g6 g7 bm root A c ps.length w' r r) := by
  have HR := Aside0.mk hr0
  have HC := Aside0.mk hc0
  have HV := Aside0.mk hv
  have HU := Aside0.mk ((used_f root ps i).trans (congrArg some (decide_eq_true hyes)))
  have HIN := Aside0.mk hin
  have HWF := Aside0.mk hwf
  have HLEN := Aside0.mk hlen
  have IH := Aside0.mk ih
  have H' := Aside0.mk h
  clear hr0 hc0 hv hin hwf hlen ih h
  have hu1 := Try.underlying90
  have hu2 := Try.underlying49
  have hk0 : w.cell? ⟨g2, 0, none⟩ = some (.int .i64 root) := (blk_cell HV.out.box 0).trans rfl
  have hk1 : w.cell? ⟨g2, 1, none⟩ = some (.slice A ps.length c) := (blk_cell HV.out.box 1).trans rfl
  have hu3 := Try.underlying54
  obtain ⟨h0, h1, hus⟩ := hyes
  obtain ⟨ad, A2, c2, e2, hz0, hz1, hz2, hl2, hC2⟩ := at_T90 HR.out i h0 h1
  subst e2
  have HC2 := Aside0.mk hC2
  have HL2 := Aside0.mk hl2
  have HZ1 := Aside0.mk hz1
  have HZ2 := Aside0.mk hz2
  clear hC2 hl2 hz0 hz1 hz2 hus
  obtain ⟨bl, hbl⟩ : ∃ b : Bool, b = (rd_T90 ps i).f1.f0 := ⟨_, rfl⟩
  obtain ⟨es, hes⟩ : ∃ l : List S103, l = (rd_T90 ps i).f1.f1 := ⟨_, rfl⟩
  rw [← hbl] at HZ1 H'
  rw [← hes] at HZ2 H' HC2 HL2
  clear hbl hes
  cases bl with
  | true =>
    go_enter Try.func144, Try.ntmps144
    go_wp2_with (first
      | (go_at_call 89; refine (impl_used.calls root _ c ps i _ _ (Kd.C_below HR.out HV.out.below) HC.out HU.out).mono ?_; rintro e w1 ⟨rfl, hb1⟩; have HV1 := Aside0.mk (HV.out.next hb1); clear hb1 hk0 hk1 HV; have hk6 : w1.cell? ⟨g6, 0, none⟩ = some (.map (some bm)) := (blk_cell HV1.out.met 0).trans rfl; obtain ⟨nm, Dm, hnm, him, hom, hcm⟩ := HV1.out.map; have HNM := Aside0.mk hnm; have HIM := Aside0.mk him; have HOM := Aside0.mk hom; have HCM := Aside0.mk hcm; clear hnm him hom hcm) | ((try (refine gate_guard (by rfl) ?_; dsimp only)); at_lookup; refine wpList_lookup_own_int _ rfl _ _ 104 rfl 3 3 .i64 (Go.Maps.int_keyed Try.underlying3) Try.underlying104 Try.underlying3 (zero_int _) bm nm Dm rfl HOM.out _ _ rfl (Go.Maps.keyOf_int_mk Try.underlying3 HWF.out) ?_; intro cm hat hwc; obtain rfl : cm = 0 := (look_eq (HCM.out i HWF.out) hat).trans (if_neg HIN.out); clear hat hwc)
      | (at_mapUpdate; refine wpList_mapUpdate_own _ rfl _ _ _ 104 rfl 3 3 (Go.Maps.int_keyed Try.underlying3) Try.underlying104 _ bm nm Dm rfl HOM.out (by have := HNM.out; have := HLEN.out; unfold maxLen; omega) _ _ (.int .i64 i) rfl rfl (Go.Maps.keyOf_int_mk Try.underlying3 HWF.out) (.lit (.int .i64 1)) [] (plainElem_int Try.underlying3 (by decide)) ?_; intro w2 hown2 hg2; have HV2 := Aside0.mk (HV1.out.put hg2 (MetOk.put HNM.out HIM.out hown2 HCM.out)); clear hown2 hg2 hk6; obtain ⟨Av, vv, cv, evv, h5c, hvr⟩ := HV2.out.row; subst evv; have HVR := Aside0.mk hvr; have H5C := Aside0.mk h5c; have hk5 : w2.cell? ⟨g5, 0, none⟩ = some (.slice Av xs.length cv) := (blk_cell h5c 0).trans rfl; have hf5 := blk_frozen h5c 0; clear hvr h5c)
      | ((with_reducible refine gate_builtin (b := .append) (xs := #[.tmp 20, .tmp 22]) rfl ?_); at_builtin; refine Kd.R_append (Kd.int .i64) (w0 := w0) w0.heap.size rfl (.tmp 20) (.tmp 22) 64 3 (.int .i64 0) 8 rfl Try.underlying64 hinfoInt rfl (by decide) (by omega) (.slice Av xs.length cv) xs i [.int .i64 i] (fun _ => True) (fun _ => False) rfl rfl rfl (fun _ hk => hk.elim) (fun _ _ => trivial) HVR.out HV2.out.below HV2.out.below.size (by have := HLEN.out; omega) ?_; intro v5 w5 ho5 hb5 hg5 hat5; obtain ⟨A5, c5, e5⟩ := Kd.R_slice ho5; subst e5; have HV5 := Aside0.mk (HV2.out.app H5C.out HVR.out hg5 hb5 ho5); have hk5b : w5.cell? ⟨g5, 0, none⟩ = some (.slice Av xs.length cv) := (blk_cell (blk_grown H5C.out hg5 (Kd.R_ne HVR.out H5C.out (by decide))) 0).trans rfl; have hf5b := blk_frozen (blk_grown H5C.out hg5 (Kd.R_ne HVR.out H5C.out (by decide))) 0; clear ho5 hb5 hg5 hat5 hk5 hf5 HV2 HV1)
      | ((with_reducible refine gate_store (t := 64) (p := 3) rfl ?_); refine store_event (t := 64) (p := 3) (v := ?vo8) (w1 := (w5.setCell ⟨g5, 0, none⟩ (.slice A5 (xs ++ [i]).length c5))) ?hg ?ho ?hn ?hr ?_; (case ho => rfl); (case hg => rfl); (case hn => rfl); (case hr => first | (go_simp; done) | (go_simp; rfl)); intro w6 hw; rw [← hw] at HV5; clear hw; have hx1 := (HV5.out.below.cell (World.block_lt_of_cell? w0 _ HZ1.out)).trans HZ1.out; have hx2 := (HV5.out.below.cell (World.block_lt_of_cell? w0 _ HZ2.out)).trans HZ2.out; have hk1 : w6.cell? ⟨g2, 1, none⟩ = some (.slice (some ad) ps.length c) := (blk_cell HV5.out.box 1).trans rfl))
    go_end0
    obtain rfl := walkL_leaf H'.out
    exact ⟨_, rfl, HV5.out⟩
  | false =>
    go_enter Try.func144, Try.ntmps144
    go_wp2_with (first
      | (go_at_call 89; refine (impl_used.calls root _ c ps i _ _ (Kd.C_below HR.out HV.out.below) HC.out HU.out).mono ?_; rintro e w1 ⟨rfl, hb1⟩; have HV1 := Aside0.mk (HV.out.next hb1); clear hb1 hk0 hk1 HV; have hk6 : w1.cell? ⟨g6, 0, none⟩ = some (.map (some bm)) := (blk_cell HV1.out.met 0).trans rfl; obtain ⟨nm, Dm, hnm, him, hom, hcm⟩ := HV1.out.map; have HNM := Aside0.mk hnm; have HIM := Aside0.mk him; have HOM := Aside0.mk hom; have HCM := Aside0.mk hcm; clear hnm him hom hcm) | ((try (refine gate_guard (by rfl) ?_; dsimp only)); at_lookup; refine wpList_lookup_own_int _ rfl _ _ 104 rfl 3 3 .i64 (Go.Maps.int_keyed Try.underlying3) Try.underlying104 Try.underlying3 (zero_int _) bm nm Dm rfl HOM.out _ _ rfl (Go.Maps.keyOf_int_mk Try.underlying3 HWF.out) ?_; intro cm hat hwc; obtain rfl : cm = 0 := (look_eq (HCM.out i HWF.out) hat).trans (if_neg HIN.out); clear hat hwc)
      | (at_mapUpdate; refine wpList_mapUpdate_own _ rfl _ _ _ 104 rfl 3 3 (Go.Maps.int_keyed Try.underlying3) Try.underlying104 _ bm nm Dm rfl HOM.out (by have := HNM.out; have := HLEN.out; unfold maxLen; omega) _ _ (.int .i64 i) rfl rfl (Go.Maps.keyOf_int_mk Try.underlying3 HWF.out) (.lit (.int .i64 1)) [] (plainElem_int Try.underlying3 (by decide)) ?_; intro w2 hown2 hg2; have HV2 := Aside0.mk (HV1.out.put hg2 (MetOk.put HNM.out HIM.out hown2 HCM.out)); clear hown2 hg2 hk6; obtain ⟨Av, vv, cv, evv, h5c, hvr⟩ := HV2.out.row; subst evv; have HVR := Aside0.mk hvr; have H5C := Aside0.mk h5c; have hk5 : w2.cell? ⟨g5, 0, none⟩ = some (.slice Av xs.length cv) := (blk_cell h5c 0).trans rfl; have hf5 := blk_frozen h5c 0; clear hvr h5c)
      | ((with_reducible refine gate_builtin (b := .append) (xs := #[.tmp 20, .tmp 22]) rfl ?_); at_builtin; refine Kd.R_append (Kd.int .i64) (w0 := w0) w0.heap.size rfl (.tmp 20) (.tmp 22) 64 3 (.int .i64 0) 8 rfl Try.underlying64 hinfoInt rfl (by decide) (by omega) (.slice Av xs.length cv) xs i [.int .i64 i] (fun _ => True) (fun _ => False) rfl rfl rfl (fun _ hk => hk.elim) (fun _ _ => trivial) HVR.out HV2.out.below HV2.out.below.size (by have := HLEN.out; omega) ?_; intro v5 w5 ho5 hb5 hg5 hat5; obtain ⟨A5, c5, e5⟩ := Kd.R_slice ho5; subst e5; have HV5 := Aside0.mk (HV2.out.app H5C.out HVR.out hg5 hb5 ho5); have hk5b : w5.cell? ⟨g5, 0, none⟩ = some (.slice Av xs.length cv) := (blk_cell (blk_grown H5C.out hg5 (Kd.R_ne HVR.out H5C.out (by decide))) 0).trans rfl; have hf5b := blk_frozen (blk_grown H5C.out hg5 (Kd.R_ne HVR.out H5C.out (by decide))) 0; clear ho5 hb5 hg5 hat5 hk5 hf5 HV2 HV1)
      | ((with_reducible refine gate_store (t := 64) (p := 3) rfl ?_); refine store_event (t := 64) (p := 3) (v := ?vo8) (w1 := (w5.setCell ⟨g5, 0, none⟩ (.slice A5 (xs ++ [i]).length c5))) ?hg ?ho ?hn ?hr ?_; (case ho => rfl); (case hg => rfl); (case hn => rfl); (case hr => first | (go_simp; done) | (go_simp; rfl)); intro w6 hw; rw [← hw] at HV5; clear hw; have hx1 := (HV5.out.below.cell (World.block_lt_of_cell? w0 _ HZ1.out)).trans HZ1.out; have hx2 := (HV5.out.below.cell (World.block_lt_of_cell? w0 _ HZ2.out)).trans HZ2.out; have hk1 : w6.cell? ⟨g2, 1, none⟩ = some (.slice (some ad) ps.length c) := (blk_cell HV5.out.box 1).trans rfl))
    go_loopg [40] k (fun kq v40 w' => ∃ (o : List Int) (x : Int), v40 = .int .i64 x ∧ Aside0 (walkL kq ps false es o x = some r) ∧ Aside0 (kq ≤ k) ∧ Aside0 (VState w0 g2 g5 g6 g7 bm root (some ad) c ps.length w' o o))
    case atStart => exact ⟨xs ++ [i], 0, rfl, H', ⟨Nat.le_refl _⟩, HV5⟩
    case round =>
      clear H' HV5 hx1 hx2 hk1
      obtain ⟨o, x, rfl, HA, HK1, HV⟩ := hrel
      cases gk with
      | zero => exact absurd HA.out (by simp [walkL])
      | succ k1 =>
        have H := HA.out
        clear HA
        rw [walkL] at H
        by_cases c1 : x < (es.length : Int)
        · rw [if_pos c1, if_neg (by decide)] at H
          have c1b : decide (x < (es.length : Int)) = true := decide_eq_true c1
          by_cases c2b : 0 ≤ x
          · rw [if_pos c2b] at H
            obtain ⟨o2, h2, H⟩ := Option.bind_eq_some_iff.mp H
            have H2 := Aside0.mk h2
            have H' := Aside0.mk H
            clear H h2
            obtain ⟨ad2, e2, hy0, hy1, hy2, hy3, hy4⟩ := at_T103 HC2.out x c2b c1
            subst e2
            replace hy0 := (HV.out.below.cell (World.block_lt_of_cell? w0 _ hy0)).trans hy0
            replace hy1 := (HV.out.below.cell (World.block_lt_of_cell? w0 _ hy1)).trans hy1
            replace hy2 := (HV.out.below.cell (World.block_lt_of_cell? w0 _ hy2)).trans hy2
            replace hy3 := (HV.out.below.cell (World.block_lt_of_cell? w0 _ hy3)).trans hy3
            replace hy4 := (HV.out.below.cell (World.block_lt_of_cell? w0 _ hy4)).trans hy4
            go_wp2_with (first
              | ((with_reducible refine gate_dst (N := 7) rfl ?_); refine box_event ?hg (N := 7) ?hd (cs := #[.int .i64 0, .int .i64 0, .int .i64 0, .int .i64 0, .int .i64 0]) (t := 103) ?hr ?_; (case hd => rfl); (case hg => rfl); (case hr => first | (go_simp; done) | (go_simp; rfl)); intro gv hg w7 hbox hb7; have hs0 : w7.cell? ⟨gv, 0, none⟩ = some (.int .i64 0) := (blk_cell hbox 0).trans rfl; have hs1 : w7.cell? ⟨gv, 1, none⟩ = some (.int .i64 0) := (blk_cell hbox 1).trans rfl; have hs2 : w7.cell? ⟨gv, 2, none⟩ = some (.int .i64 0) := (blk_cell hbox 2).trans rfl; have hs3 : w7.cell? ⟨gv, 3, none⟩ = some (.int .i64 0) := (blk_cell hbox 3).trans rfl; have hs4 : w7.cell? ⟨gv, 4, none⟩ = some (.int .i64 0) := (blk_cell hbox 4).trans rfl; have hf0 := blk_frozen hbox 0; have hf1 := blk_frozen hbox 1; have hf2 := blk_frozen hbox 2; have hf3 := blk_frozen hbox 3; have hf4 := blk_frozen hbox 4; have HW7 := Aside0.mk hb7; have BK7 := Aside0.mk hbox; have GW7 := Aside0.mk hg; clear hb7 hg hbox)
              | ((with_reducible refine gate_store (t := 103) (p := 7) rfl ?_); refine store_event (t := 103) (p := 7) (v := ?vo9) (w1 := (((((w7.setCell ⟨gv, 0, none⟩ (.int .i64 (rd_T103 es x).f0)).setCell ⟨gv, 1, none⟩ (.int .i64 (rd_T103 es x).f1.f0)).setCell ⟨gv, 2, none⟩ (.int .i64 (rd_T103 es x).f1.f1)).setCell ⟨gv, 3, none⟩ (.int .i64 (rd_T103 es x).f1.f2)).setCell ⟨gv, 4, none⟩ (.int .i64 (rd_T103 es x).f1.f3))) ?hg ?ho ?hn ?hr ?_; (case ho => rfl); (case hg => rfl); (case hn => rfl); (case hr => exact store5_run _ _ 7 43 rfl gv w7 _ _ _ _ _ rfl rfl BK7.out); intro w8 hw; have hb8 := set5_below HW7.out GW7.out (.int .i64 (rd_T103 es x).f0) (.int .i64 (rd_T103 es x).f1.f0) (.int .i64 (rd_T103 es x).f1.f1) (.int .i64 (rd_T103 es x).f1.f2) (.int .i64 (rd_T103 es x).f1.f3); rw [← hw] at hb8; have HV8 := Aside0.mk (HV.out.next hb8); have hk7 : w8.cell? ⟨gv, 0, none⟩ = some (.int .i64 (rd_T103 es x).f0) := (by rw [hw]; exact set5_cell BK7.out _ _ _ _ _); have hk4 := HV8.out.fncell; clear hw hb8 hs0 hs1 hs2 hs3 hs4 hf0 hf1 hf2 hf3 hf4 HW7 BK7 GW7)
              | (go_at_call 144; refine (IH.out k1 (by have := HK1.out; omega) _ o o2 _ HV8.out H2.out).mono ?_; rintro e w9 ⟨v9, rfl, hv9⟩; clear hk7 hk4))
            go_roundg k1
            case measure => have := HK1.out; omega
            case rel => exact ⟨o2, wrap64 (x + 1), rfl, H', ⟨by have := HK1.out; omega⟩, ⟨hv9⟩⟩
          · rw [if_neg c2b] at H
            exact absurd H (by simp)
        · rw [if_neg c1] at H
          have c1b : decide (x < (es.length : Int)) = false := decide_eq_false c1
          obtain rfl := Option.some.inj H
          go_wp2
          go_end0
          exact ⟨⟨_, rfl⟩, HV.out⟩

theorem visit_all (w0 : World) (g2 g5 g6 g7 bm : Nat) (root : Int) (A : Option Addr) (c : Nat) (ps : List S90) (hr0 : Kd.C k90 w0 A ps.length ps) (hc0 : ps.length ≤ c) : ∀ k k', k' ≤ k → VisitSaid w0 g2 g5 g6 g7 bm root A c ps k'
  | 0, k', hk => by
    obtain rfl : k' = 0 := by omega
    intro i xs r w _ h
    simp [walkM] at h
  | k + 1, k', hk => by
    rcases Nat.lt_or_ge k' (k + 1) with hlt | hge
    · exact visit_all w0 g2 g5 g6 g7 bm root A c ps hr0 hc0 k k' (by omega)
    obtain rfl : k' = k + 1 := by omega
    intro i xs r w hv h
    rw [walkM] at h
    have hmax : ps.length ≤ 9223372036854775807 := hr0.2.1
    by_cases h1 : pgOk ps i
    · rw [if_pos h1] at h
      have hwf : (Lit.int .i64 i).wf = true := by
        have h2 := h1.1
        have h3 := h1.2.1
        unfold Lit.wf
        rw [Bool.and_eq_true, decide_eq_true_eq, decide_eq_true_eq]
        have e1 : IntKind.i64.min = -9223372036854775808 := by decide
        have e2 : IntKind.i64.max = 9223372036854775807 := by decide
        rw [e1, e2]
        omega
      by_cases h3 : xs.length < 17592186044415
      · rw [if_pos h3] at h
        by_cases h2 : i ∈ xs
        · rw [if_pos h2] at h
          obtain rfl := Option.some.inj h
          exact visit_met w0 g2 g5 g6 g7 bm A c ps hr0 hc0 root i xs w hv h1 hwf h2
        · rw [if_neg h2] at h
          exact visit_new w0 g2 g5 g6 g7 bm A c ps hr0 hc0 root i xs w hv h1 hwf h2 h3 k (fun k' hk' => visit_all w0 g2 g5 g6 g7 bm root A c ps hr0 hc0 k k' hk') r h
      · rw [if_neg h3] at h
        exact absurd h (by simp)
    · rw [if_neg h1] at h
      obtain rfl := Option.some.inj h
      exact visit_out w0 g2 g5 g6 g7 bm A c ps hr0 hc0 root i xs w hv h1

theorem MetOk.below {w w' : World} {b : Nat} {out : List Int} (h : MetOk w b out) (hb : Below w.heap.size w w') : MetOk w' b out := by
  obtain ⟨es, clock, hm⟩ := h.isMap
  exact h.step ((blk_below hm hb).trans hm.symm)
theorem blkFarH {w : World} {g g' : Nat} {o : Obj} (h : w.heap[g]? = some o) (hne : g ≠ g') (v : Value) : (w.setCell ⟨g', 0, none⟩ v).heap[g]? = some o := (Below.heap_setCell w _ v _ hne).trans h
theorem MetOk.far {w : World} {b g : Nat} {out : List Int} {cs : Array Value} {t : TypeId} {fr : Nat × Nat} (h : MetOk w b out) (hc : w.heap[g]? = some (.cells cs t fr)) (v : Value) : MetOk (w.setCell ⟨g, 0, none⟩ v) b out := by
  obtain ⟨es, clock, hm⟩ := h.isMap
  exact h.step (Below.heap_setCell w _ v _ (fun e => cells_ne_map hc hm (by rw [e])))
theorem func_store (o : Oper) (a : Act) (p v : Tmp) (hop : o.op = .store 137 (.tmp p) (.tmp v)) (g : Nat) (w : World) (f : FuncId) (fs : Array Value) (hp : a.eval (.tmp p) = .pointer (some ⟨g, 0, none⟩)) (hv : a.eval (.tmp v) = .func (.func f) #[] fs)
    (hbox : w.heap[g]? = some (.cells #[.nilFunc] 137 (0, 0))) : (execOp a.eval o).run Try.prog w = .ok .skip (w.setCell ⟨g, 0, none⟩ (.func (.func f) #[] fs)) := by
  have hs : w.cell? ⟨g, 0, none⟩ = some .nilFunc := (blk_cell hbox 0).trans rfl
  have hf := blk_frozen hbox 0
  have hu := Try.underlying137
  unfold execOp
  rw [hop]
  simp only [hp, hv]
  have hone : (Value.func (.func f) #[] fs).oneCell' = true := rfl
  clear hop hp hv hbox
  first | (go_simp; done) | (go_simp; rfl) | (go_simp; rw [run_store _ _ _ _ _ hone]; simp [hs, hf]; done)
theorem map_event {ops : Array Oper} {rest : List Oper} {o : Oper} {a : Act} {Q : Exit → Act → World → Prop} {W : World} (hgd : o.guard = none) {N : Tmp} (hd : o.dst = some N) (hop : o.op = .makeMap 104 none)
    (h : ∀ g, g = W.heap.size → ∀ w1, MetOk w1 g [] → Below W.heap.size W w1 → wpList Try.prog ops Q rest (a.put o.dst (.map (some g))) w1) : wpList Try.prog ops Q (o :: rest) a W := by
  refine Kd.event_run (v := .map (some W.heap.size)) (w1 := W.alloc (.map #[] 0)) hgd ?_ (h _ rfl _ (MetOk.made W) (below_alloc (Below.refl _ _) _))
  unfold execOp
  rw [hop]
  simp [run_makeMap, Result.andThen]
theorem start_state {w w9 w10 : World} {g2 g5 g6 g7 bm : Nat} {root : Int} {A : Option Addr} {c n : Nat} (hb : Below w.heap.size w w9) (h2 : w9.heap[g2]? = some (.cells #[.int .i64 root, .slice A n c] 49 (0, 0))) (h6 : w9.heap[g6]? = some (.cells #[.map (some bm)] 104 (0, 0))) (h5 : w9.heap[g5]? = some (.cells #[.slice none 0 0] 64 (0, 0))) (h7 : w9.heap[g7]? = some (.cells #[.nilFunc] 137 (0, 0))) (hm : MetOk w9 bm []) (ge5 : w.heap.size ≤ g5) (gem : w.heap.size ≤ bm) (ge7 : w.heap.size ≤ g7) (hw : w10 = w9.setCell ⟨g7, 0, none⟩ (.func (.func 144) #[] #[.pointer (some ⟨g2, 0, none⟩), .pointer (some ⟨g6, 0, none⟩), .pointer (some ⟨g5, 0, none⟩), .pointer (some ⟨g7, 0, none⟩)])) : VState w g2 g5 g6 g7 bm root A c n w10 [] [] := by
  subst hw
  exact ⟨below_set hb ge7, blkFarH h2 (blkNe h2 h7 (by decide)) _, blkFarH h6 (blkNe h6 h7 (by decide)) _, ⟨none, _, 0, rfl, blkFarH h5 (blkNe h5 h7 (by decide)) _, Kd.R_nil _ _ _ _ _⟩, blk_put h7 0 _ rfl, hm.far h7 _, ge5, gem⟩

/-- The program's walk. -/
def impl_reachFrom.f (k : Nat) (a0_0 : Int) (l0_1 : List S90) (a1 : Int) : Option (List Int) := walkM k l0_1 a1 []
theorem impl_reachFrom.mono : ∀ a0 a1 a2 k, LeO (impl_reachFrom.f k a0 a1 a2) (impl_reachFrom.f (k + 1) a0 a1 a2) := fun a0 a1 a2 k => (walk_mono k).1 _ _ _
set_option maxHeartbeats 8000000 in
set_option maxRecDepth 100000 in
theorem impl_reachFrom.calls (k : Nat) (a0_0 : Int) (A0_1 : Option Addr) (c0_1 : Nat) (l0_1 : List S90) (a1 : Int) (r : List Int) (w : World) (hr0_1 : Kd.C k90 w A0_1 l0_1.length l0_1) (hc0_1 : l0_1.length ≤ c0_1) (h : impl_reachFrom.f k a0_0 l0_1 a1 = some r) :
    Calls Try.prog 127 #[.agg #[.int .i64 a0_0, .slice A0_1 l0_1.length c0_1], .int .i64 a1] w fun e w' => ∃ v0_ : Value, e = .returned (v0_) ∧ Kd.R (Kd.int .i64) 3 w' w.heap.size (fun _ => True) v0_ r ∧ Below w.heap.size w w' := by
  have HS := Aside0.mk (fun g2 g5 g6 g7 bm => visit_all w g2 g5 g6 g7 bm a0_0 A0_1 c0_1 l0_1 hr0_1 hc0_1 k k (Nat.le_refl _))
  have H' := Aside0.mk h
  clear hr0_1 hc0_1 h
  have hu2 := Try.underlying49
  go_enter Try.func127, Try.ntmps127
  go_wp2_with (first
    | ((with_reducible refine gate_dst (N := 2) rfl ?_); refine box_event ?hg (N := 2) ?hd (cs := #[.int .i64 a0_0, .slice A0_1 l0_1.length c0_1]) (t := 49) ?hr ?_; (case hd => rfl); (case hg => rfl); (case hr => first | (go_simp; done) | (go_simp; rfl)); intro g2 hg w2 hbox hb; have B2 := Aside0.mk hb; have BK2 := Aside0.mk hbox; clear hb hg hbox)
    | ((with_reducible refine gate_dst (N := 5) rfl ?_); refine box_event ?hg (N := 5) ?hd (cs := #[.slice none 0 0]) (t := 64) ?hr ?_; (case hd => rfl); (case hg => rfl); (case hr => first | (go_simp; done) | (go_simp; rfl)); intro g5 hg w5 hbox hb; have B5 := Aside0.mk (below_step B2.out hb); have BK2 := Aside0.mk (blk_below BK2.out hb); have BK5 := Aside0.mk hbox; have GE5 := Aside0.mk (by rw [hg]; exact B2.out.size : w.heap.size ≤ g5); clear hb hg hbox)
    | ((with_reducible refine gate_dst (N := 8) rfl ?_); refine map_event rfl (N := 8) rfl rfl ?_; intro bm hg w8 hmet hb; have B8 := Aside0.mk (below_step B5.out hb); have BK2 := Aside0.mk (blk_below BK2.out hb); have BK5 := Aside0.mk (blk_below BK5.out hb); have GE8 := Aside0.mk (by rw [hg]; exact B5.out.size : w.heap.size ≤ bm); have MET := Aside0.mk hmet; clear hb hg hmet)
    | ((with_reducible refine gate_dst (N := 6) rfl ?_); refine box_event ?hg (N := 6) ?hd (cs := #[.map none]) (t := 104) ?hr ?_; (case hd => rfl); (case hg => rfl); (case hr => first | (go_simp; done) | (go_simp; rfl)); intro g6 hg w6 hbox hb; have B6 := Aside0.mk (below_step B8.out hb); have BK2 := Aside0.mk (blk_below BK2.out hb); have BK5 := Aside0.mk (blk_below BK5.out hb); have MET := Aside0.mk (MET.out.below hb); have BK6 := Aside0.mk hbox; have GE6 := Aside0.mk (by rw [hg]; exact B8.out.size : w.heap.size ≤ g6); have hs6 : w6.cell? ⟨g6, 0, none⟩ = some (.map none) := (blk_cell hbox 0).trans rfl; have hf6 := blk_frozen hbox 0; clear hb hg hbox)
    | ((with_reducible refine gate_store (t := 104) (p := 6) rfl ?_); refine store_event (t := 104) (p := 6) (v := ?vo1) (w1 := (w6.setCell ⟨g6, 0, none⟩ (.map (some bm)))) ?hg ?ho ?hn ?hr ?_; (case ho => rfl); (case hg => rfl); (case hn => rfl); (case hr => first | (go_simp; done) | (go_simp; rfl)); intro w7 hw; have BK2 := Aside0.mk (hw ▸ blkFarH BK2.out (blkNe BK2.out BK6.out (by decide)) (.map (some bm))); have BK5 := Aside0.mk (hw ▸ blkFarH BK5.out (blkNe BK5.out BK6.out (by decide)) (.map (some bm))); have MET := Aside0.mk (hw ▸ MET.out.far BK6.out (.map (some bm))); have B7 := Aside0.mk (hw ▸ below_set B6.out GE6.out : Below w.heap.size w w7); have BK6 := Aside0.mk (hw ▸ blk_put (cs' := #[.map (some bm)]) BK6.out 0 (.map (some bm)) rfl : w7.heap[g6]? = some (.cells #[.map (some bm)] 104 (0, 0))); clear hw hs6 hf6)
    | ((with_reducible refine gate_dst (N := 7) rfl ?_); refine box_event ?hg (N := 7) ?hd (cs := #[.nilFunc]) (t := 137) ?hr ?_; (case hd => rfl); (case hg => rfl); (case hr => first | (go_simp; done) | (go_simp; rfl)); intro g7 hg w9 hbox hb; have B9 := Aside0.mk (below_step B7.out hb); have BK2 := Aside0.mk (blk_below BK2.out hb); have BK5 := Aside0.mk (blk_below BK5.out hb); have BK6 := Aside0.mk (blk_below BK6.out hb); have MET := Aside0.mk (MET.out.below hb); have BK7 := Aside0.mk hbox; have GE7 := Aside0.mk (by rw [hg]; exact B7.out.size : w.heap.size ≤ g7); have hs7 : w9.cell? ⟨g7, 0, none⟩ = some .nilFunc := (blk_cell hbox 0).trans rfl; have hf7 := blk_frozen hbox 0; clear hb hg hbox)
    | ((with_reducible refine gate_store (t := 137) (p := 7) rfl ?_); refine store_event (t := 137) (p := 7) (v := ?vo2) (w1 := (w9.setCell ⟨g7, 0, none⟩ (.func (.func 144) #[] #[.pointer (some ⟨g2, 0, none⟩), .pointer (some ⟨g6, 0, none⟩), .pointer (some ⟨g5, 0, none⟩), .pointer (some ⟨g7, 0, none⟩)]))) ?hg ?ho ?hn ?hr ?_; (case ho => rfl); (case hg => rfl); (case hn => rfl); (case hr => exact func_store _ _ 7 9 rfl g7 w9 _ _ rfl rfl BK7.out); intro w10 hw; have HV := Aside0.mk (start_state B9.out BK2.out BK6.out BK5.out BK7.out MET.out GE5.out GE8.out GE7.out hw); have hk7 : w10.cell? ⟨g7, 0, none⟩ = some (.func (.func 144) #[] #[.pointer (some ⟨g2, 0, none⟩), .pointer (some ⟨g6, 0, none⟩), .pointer (some ⟨g5, 0, none⟩), .pointer (some ⟨g7, 0, none⟩)]) := HV.out.fncell; clear hw hs7 hf7)
    | (go_at_call 144; refine (HS.out g2 g5 g6 g7 bm a1 [] r _ HV.out H'.out).mono ?_; rintro e w11 ⟨v11, rfl, hv⟩; obtain ⟨Av, vv, cv, evv, h5c, hvr⟩ := hv.row; subst evv; have HVR := Aside0.mk hvr; have HBB := Aside0.mk hv.below; have hk5 : w11.cell? ⟨g5, 0, none⟩ = some (.slice Av r.length cv) := (blk_cell h5c 0).trans rfl; clear hv hvr h5c))
  go_ret
  exact ⟨_, rfl, HVR.out, HBB.out⟩

end Go.Proofs.Ytngjaajcdbodeaa.All

namespace Go.Proofs.Ytngjaajcdbodeaa.All
open Go.RowKit Go.Proofs.YtngjaajcdbodeaaW.PrintWords Go.Proofs.YtngjaajcdbodeaaW.PrintLast Go.Proofs.YtngjaajcdbodeaaW.PrintMore
attribute [local go_sem] max2_int min2_int max_two min_two max_three min_three max_four min_four   -- for this text's walks alone
set_option linter.unusedVariables false
set_option linter.unusedSimpArgs false

/-! ### impl_in: function 88 -/
def impl_in.f (a0 : Int) (a1 : Int) (a2 : Int) : Option (Bool) := if a1 ≤ a0 then (some (decide (a0 ≤ a2))) else (some false)
set_option maxHeartbeats 8000000 in
set_option maxRecDepth 100000 in
theorem impl_in.calls (a0 : Int) (a1 : Int) (a2 : Int) (r : Bool) (w : World) (h : impl_in.f a0 a1 a2 = some r) :
    Calls Try.prog 88 #[.int .i64 a0, .int .i64 a1, .int .i64 a2] w fun e w' => e = .returned (.bool r) ∧ Drawn0 w w' := by
  have H : (if a1 ≤ a0 then (some (decide (a0 ≤ a2))) else (some false)) = some r := h
  clear h
  by_cases c4 : a1 ≤ a0
  · rw [if_pos c4] at H
    have c4b0 : decide (a1 ≤ a0) = true := decide_eq_true c4
    clear c4
    obtain rfl := Option.some.inj H
    go_enter Try.func88, Try.ntmps88
    go_wp2
    go_ret
    exact ⟨by first | rfl | (simp; done) | (simp [*]; done), by repeat (first | exact Drawn0.refl _ | apply Drawn0.step)⟩
  · rw [if_neg c4] at H
    have c4b0 : decide (a1 ≤ a0) = false := decide_eq_false c4
    clear c4
    obtain rfl := Option.some.inj H
    go_enter Try.func88, Try.ntmps88
    go_wp2
    go_ret
    exact ⟨by first | rfl | (simp; done) | (simp [*]; done), by repeat (first | exact Drawn0.refl _ | apply Drawn0.step)⟩

end Go.Proofs.Ytngjaajcdbodeaa.All

/- EntryAt returns the place of the first entry of a number, or -1, for every list and number. No condition. -/
namespace Go.Proofs.Ytngjaajcdbodeaa.All
open Go.RowKit Go.Proofs.YtngjaajcdbodeaaW.PrintWords Go.Proofs.YtngjaajcdbodeaaW.PrintLast Go.Proofs.YtngjaajcdbodeaaW.PrintMore
set_option linter.unusedVariables false
set_option linter.unusedSimpArgs false

/-! ### impl_EntryAt: by hand -/
def impl_EntryAt.l0 : Nat → List S103 → Int → Int → Option Int
  | 0, _, _, _ => none
  | k + 1, x0, x1, x5 => if x5 < (x0.length : Int) then (if 0 ≤ x5 then (if (rd_T103 x0 x5).f0 = x1 then some x5 else impl_EntryAt.l0 k x0 x1 (wrap64 (x5 + 1))) else none) else some (-1)
def impl_EntryAt.f (k : Nat) (l0 : List S103) (a1 : Int) : Option Int := impl_EntryAt.l0 k l0 a1 0
theorem impl_EntryAt.mono_l : ∀ k, (∀ y0 y1 y2, LeO (impl_EntryAt.l0 k y0 y1 y2) (impl_EntryAt.l0 (k + 1) y0 y1 y2))
  | 0 => fun _ _ _ r h => by simp [impl_EntryAt.l0] at h
  | k + 1 => by
    have ih0 := impl_EntryAt.mono_l k
    intro y0 y1 y2
    unfold impl_EntryAt.l0
    exact LeO.ite (LeO.ite (LeO.ite (LeO.refl _) (ih0 _ _ _)) (LeO.refl _)) (LeO.refl _)
theorem impl_EntryAt.mono : ∀ a0 a1 k, LeO (impl_EntryAt.f k a0 a1) (impl_EntryAt.f (k + 1) a0 a1) := fun a0 a1 k => impl_EntryAt.mono_l k _ _ _
set_option maxHeartbeats 8000000 in
set_option maxRecDepth 100000 in
theorem slices_IndexFunc_Entry.calls (k : Nat) (A0 : Option Addr) (c0 : Nat) (l0 : List S103) (a1 r : Int) (g : Nat) (w : World) (hr0 : Kd.C k103 w A0 l0.length l0) (hc0 : l0.length ≤ c0) (hcell : w.cell? ⟨g, 0, none⟩ = some (.int .i64 a1)) (h : impl_EntryAt.l0 k l0 a1 0 = some r) :
    Calls Try.prog 133 #[.slice A0 l0.length c0, .func (.func 134) #[] #[.pointer (some ⟨g, 0, none⟩)]] w fun e w' => e = .returned (.int .i64 r) ∧ Below w.heap.size w w' := by
  have HR := Aside0.mk hr0
  have HC := Aside0.mk hc0
  have HG := Aside0.mk hcell
  have HB := Aside0.mk (Below.refl w.heap.size w)
  clear hr0 hc0 hcell
  have H' := Aside0.mk h
  clear h
  have hu1 := Try.underlying103
  go_enter Try.func133, Try.ntmps133
  go_wp2
  go_loopg [8] k (fun kq v8 w' => ∃ (x5_1 : Int), v8 = .int .i64 x5_1 ∧ Aside0 (impl_EntryAt.l0 kq l0 a1 x5_1 = some r) ∧ Aside0 (kq ≤ k) ∧ Aside0 (Below w.heap.size w w'))
  case atStart => exact ⟨0, rfl, H', ⟨Nat.le_refl _⟩, HB⟩
  case round =>
    clear H' HB
    obtain ⟨x5_1, rfl, HA, HK1, HB⟩ := hrel
    cases gk with
    | zero => exact absurd HA.out (by simp [impl_EntryAt.l0])
    | succ k1 =>
      have H := HA.out
      clear HA
      simp only [impl_EntryAt.l0] at H
      by_cases c3 : x5_1 < (l0.length : Int)
      · rw [if_pos c3] at H
        by_cases c4 : 0 ≤ x5_1
        · rw [if_pos c4] at H
          obtain ⟨ad, e, hx0, hx1, hx2, hx3, hx4⟩ := at_T103 HR.out x5_1 c4 c3
          cases e
          replace hx0 := (HB.out.cell (World.block_lt_of_cell? w _ hx0)).trans hx0
          replace hx1 := (HB.out.cell (World.block_lt_of_cell? w _ hx1)).trans hx1
          replace hx2 := (HB.out.cell (World.block_lt_of_cell? w _ hx2)).trans hx2
          replace hx3 := (HB.out.cell (World.block_lt_of_cell? w _ hx3)).trans hx3
          replace hx4 := (HB.out.cell (World.block_lt_of_cell? w _ hx4)).trans hx4
          have hxg := (HB.out.cell (World.block_lt_of_cell? w _ HG.out)).trans HG.out
          have hlg : g < wr.heap.size := World.block_lt_of_cell? wr _ hxg
          have c3b0 : decide (x5_1 < (l0.length : Int)) = true := decide_eq_true c3
          by_cases c5 : (rd_T103 l0 x5_1).f0 = a1
          · rw [if_pos c5] at H
            obtain rfl := Option.some.inj H
            have c5b : ((rd_T103 l0 x5_1).f0 == a1) = true := beq_iff_eq.mpr c5
            clear c5 H
            go_wp2
            go_ret
            exact ⟨rfl, below_alloc HB.out _⟩
          · rw [if_neg c5] at H
            have H' := Aside0.mk H
            clear H
            have c5b : ((rd_T103 l0 x5_1).f0 == a1) = false := beq_eq_false_iff_ne.mpr c5
            clear c5
            go_wp2
            go_roundg k1
            case measure => have := HK1.out; omega
            case rel => exact ⟨_, rfl, H', ⟨by have := HK1.out; omega⟩, ⟨below_alloc HB.out _⟩⟩
        · rw [if_neg c4] at H
          exact absurd H (by simp)
      · rw [if_neg c3] at H
        have c3b0 : decide (x5_1 < (l0.length : Int)) = false := decide_eq_false c3
        clear c3
        obtain rfl := Option.some.inj H
        go_wp2
        go_ret
        exact ⟨rfl, HB.out⟩

set_option maxHeartbeats 4000000 in
set_option maxRecDepth 100000 in
theorem impl_EntryAt.calls (k : Nat) (A0 : Option Addr) (c0 : Nat) (l0 : List S103) (a1 r : Int) (w : World) (hr0 : Kd.C k103 w A0 l0.length l0) (hc0 : l0.length ≤ c0) (h : impl_EntryAt.f k l0 a1 = some r) :
    Calls Try.prog 103 #[.slice A0 l0.length c0, .int .i64 a1] w fun e w' => e = .returned (.int .i64 r) ∧ Below w.heap.size w w' := by
  have HR := Aside0.mk hr0
  have HC := Aside0.mk hc0
  have H' := Aside0.mk h
  clear hr0 hc0 h
  go_enter Try.func103, Try.ntmps103
  go_wp2_with (go_at_call 133; refine (slices_IndexFunc_Entry.calls k _ _ l0 a1 r _ _ (Kd.C_alloc HR.out _) HC.out ((blk_cell (heap_alloc_new w (.cells #[.int .i64 a1] 3)) 0).trans rfl) H'.out).mono ?_; rintro e w' ⟨rfl, hb⟩)
  go_ret
  exact ⟨rfl, below_step (below_alloc (Below.refl _ _) _) hb⟩

end Go.Proofs.Ytngjaajcdbodeaa.All

namespace Go.Proofs.Ytngjaajcdbodeaa.All
open Go.RowKit Go.Proofs.YtngjaajcdbodeaaW.PrintWords Go.Proofs.YtngjaajcdbodeaaW.PrintLast Go.Proofs.YtngjaajcdbodeaaW.PrintMore
attribute [local go_sem] max2_int min2_int max_two min_two max_three min_three max_four min_four   -- for this text's walks alone
set_option linter.unusedVariables false
set_option linter.unusedSimpArgs false

/-! ### impl_BoxOk: function 112 -/
def impl_BoxOk.f (a0_0 : Int) (a0_1 : Int) (a0_2 : Int) (a0_3 : Int) : Option (Bool) := (impl_in.f a0_0 0 a0_2).bind fun t171 => (if t171 = true then ((impl_in.f a0_2 0 255).bind fun t172 => (if t172 = true then ((impl_in.f a0_1 0 a0_3).bind fun t173 => (if t173 = true then ((impl_in.f a0_3 0 255).bind fun t174 => (some t174)) else (some false))) else (some false))) else (some false))
set_option maxHeartbeats 8000000 in
set_option maxRecDepth 100000 in
theorem impl_BoxOk.calls (a0_0 : Int) (a0_1 : Int) (a0_2 : Int) (a0_3 : Int) (r : Bool) (w : World) (h : impl_BoxOk.f a0_0 a0_1 a0_2 a0_3 = some r) :
    Calls Try.prog 112 #[.agg #[.int .i64 a0_0, .int .i64 a0_1, .int .i64 a0_2, .int .i64 a0_3]] w fun e w' => e = .returned (.bool r) ∧ Below w.heap.size w w' := by
  have hu32 := Try.underlying32
  have HB := Aside0.mk (Below.refl w.heap.size w)
  have H : ((impl_in.f a0_0 0 a0_2).bind fun t171 => (if t171 = true then ((impl_in.f a0_2 0 255).bind fun t172 => (if t172 = true then ((impl_in.f a0_1 0 a0_3).bind fun t173 => (if t173 = true then ((impl_in.f a0_3 0 255).bind fun t174 => (some t174)) else (some false))) else (some false))) else (some false))) = some r := h
  clear h
  replace H := Option.bind_eq_some_iff.mp H
  obtain ⟨t171, A20, H⟩ := H
  replace H : (if t171 = true then ((impl_in.f a0_2 0 255).bind fun t172 => (if t172 = true then ((impl_in.f a0_1 0 a0_3).bind fun t173 => (if t173 = true then ((impl_in.f a0_3 0 255).bind fun t174 => (some t174)) else (some false))) else (some false))) else (some false)) = some r := H
  have A2 := Aside0.mk A20
  clear A20
  by_cases c3 : t171 = true
  · subst c3
    have H1 : ((impl_in.f a0_2 0 255).bind fun t172 => (if t172 = true then ((impl_in.f a0_1 0 a0_3).bind fun t173 => (if t173 = true then ((impl_in.f a0_3 0 255).bind fun t174 => (some t174)) else (some false))) else (some false))) = some r := by rw [if_pos rfl] at H; exact H
    clear H
    have H := H1
    clear H1
    replace H := Option.bind_eq_some_iff.mp H
    obtain ⟨t172, A40, H⟩ := H
    replace H : (if t172 = true then ((impl_in.f a0_1 0 a0_3).bind fun t173 => (if t173 = true then ((impl_in.f a0_3 0 255).bind fun t174 => (some t174)) else (some false))) else (some false)) = some r := H
    have A4 := Aside0.mk A40
    clear A40
    by_cases c5 : t172 = true
    · subst c5
      have H1 : ((impl_in.f a0_1 0 a0_3).bind fun t173 => (if t173 = true then ((impl_in.f a0_3 0 255).bind fun t174 => (some t174)) else (some false))) = some r := by rw [if_pos rfl] at H; exact H
      clear H
      have H := H1
      clear H1
      replace H := Option.bind_eq_some_iff.mp H
      obtain ⟨t173, A60, H⟩ := H
      replace H : (if t173 = true then ((impl_in.f a0_3 0 255).bind fun t174 => (some t174)) else (some false)) = some r := H
      have A6 := Aside0.mk A60
      clear A60
      by_cases c7 : t173 = true
      · subst c7
        have H1 : ((impl_in.f a0_3 0 255).bind fun t174 => (some t174)) = some r := by rw [if_pos rfl] at H; exact H
        clear H
        have H := H1
        clear H1
        replace H := Option.bind_eq_some_iff.mp H
        obtain ⟨t174, A80, H⟩ := H
        replace H : (some t174) = some r := H
        have A8 := Aside0.mk A80
        clear A80
        obtain rfl := Option.some.inj H
        go_enter Try.func112, Try.ntmps112
        go_wp2_with (first | ((with_reducible refine gate_dst (N := 1) rfl ?_); refine box_event ?hg (N := 1) ?hd (cs := #[.int .i64 a0_0, .int .i64 a0_1, .int .i64 a0_2, .int .i64 a0_3]) (t := 32) ?hr ?_; (case hd => rfl); (case hg => rfl); (case hr => first | (go_simp; done) | (go_simp; rfl)); intro gb170 hg w9 hbox hb; have n0_ := Aside0.mk (below_step (by repeat (first | (with_reducible first | exact HB.out | apply below_alloc | apply pw_below_drewN | apply below_drew1) | exact HB.out)) hb); have n1_ := Aside0.mk (hbox); have n2_ := Aside0.mk ((by rw [hg]; exact (below_size (by repeat (first | (with_reducible first | exact HB.out | apply below_alloc | apply pw_below_drewN | apply below_drew1) | exact HB.out))) : w.heap.size ≤ gb170)); have n3_ := Aside0.mk ((by rw [hg]; exact (below_size (by repeat (first | (with_reducible first | exact HB.out | apply below_alloc | apply pw_below_drewN | apply below_drew1) | exact HB.out))) : w.heap.size ≤ gb170)); clear HB; have HB := n0_; have BK170 := n1_; have GW170 := n2_; have GE170 := n3_; clear n0_ n1_ n2_ n3_; clear hb hbox hg; have hcz10_0 : w9.cell? ⟨gb170, 0, none⟩ = some (.int .i64 a0_0) := (blk_cell BK170.out 0).trans rfl; have hcz10_1 : w9.cell? ⟨gb170, 1, none⟩ = some (.int .i64 a0_1) := (blk_cell BK170.out 1).trans rfl; have hcz10_2 : w9.cell? ⟨gb170, 2, none⟩ = some (.int .i64 a0_2) := (blk_cell BK170.out 2).trans rfl; have hcz10_3 : w9.cell? ⟨gb170, 3, none⟩ = some (.int .i64 a0_3) := (blk_cell BK170.out 3).trans rfl; have hfz10_0 := blk_frozen BK170.out 0; have hfz10_1 := blk_frozen BK170.out 1; have hfz10_2 := blk_frozen BK170.out 2; have hfz10_3 := blk_frozen BK170.out 3) | ((with_reducible refine gate_callee (f := 88) rfl ?_); refine goesL_ (some 7) rfl rfl Try.func88 (by kernel_rfl) rfl #[.int .i64 a0_0, .int .i64 0, .int .i64 a0_2] rfl (by (try simp only [List.map_toArray, List.map_cons, List.map_nil]); first | done | rfl | (simp only [List.length_drop, List.length_take]; rfl)) ?_; (with_reducible refine (impl_in.calls a0_0 0 a0_2 true _ A2.out).mono ?_); rintro e w' ⟨rfl, ⟨nd, rfl⟩⟩; refine ⟨_, rfl, ?_⟩) | (go_at_call 88; (with_reducible refine (impl_in.calls a0_2 0 255 true _ A4.out).mono ?_); rintro e w' ⟨rfl, ⟨nd, rfl⟩⟩) | (go_at_call 88; (with_reducible refine (impl_in.calls a0_1 0 a0_3 true _ A6.out).mono ?_); rintro e w' ⟨rfl, ⟨nd, rfl⟩⟩) | (go_at_call 88; (with_reducible refine (impl_in.calls a0_3 0 255 t174 _ A8.out).mono ?_); rintro e w' ⟨rfl, ⟨nd, rfl⟩⟩))
        go_ret
        exact ⟨by first | rfl | (simp [errW_none, errW_some] <;> rfl) | (simp [*, errW_none, errW_some] <;> rfl), by repeat (first | (with_reducible first | exact HB.out | apply below_alloc | apply pw_below_drewN | apply below_drew1 | refine below_set ?_ GE170.out) | exact HB.out)⟩
      · replace c7 := Bool.eq_false_iff.mpr c7
        subst c7
        have H1 : (some false) = some r := by rw [if_neg (show ¬ (false = true) by decide)] at H; exact H
        clear H
        have H := H1
        clear H1
        obtain rfl := Option.some.inj H
        go_enter Try.func112, Try.ntmps112
        go_wp2_with (first | ((with_reducible refine gate_dst (N := 1) rfl ?_); refine box_event ?hg (N := 1) ?hd (cs := #[.int .i64 a0_0, .int .i64 a0_1, .int .i64 a0_2, .int .i64 a0_3]) (t := 32) ?hr ?_; (case hd => rfl); (case hg => rfl); (case hr => first | (go_simp; done) | (go_simp; rfl)); intro gb170 hg w11 hbox hb; have n0_ := Aside0.mk (below_step (by repeat (first | (with_reducible first | exact HB.out | apply below_alloc | apply pw_below_drewN | apply below_drew1) | exact HB.out)) hb); have n1_ := Aside0.mk (hbox); have n2_ := Aside0.mk ((by rw [hg]; exact (below_size (by repeat (first | (with_reducible first | exact HB.out | apply below_alloc | apply pw_below_drewN | apply below_drew1) | exact HB.out))) : w.heap.size ≤ gb170)); have n3_ := Aside0.mk ((by rw [hg]; exact (below_size (by repeat (first | (with_reducible first | exact HB.out | apply below_alloc | apply pw_below_drewN | apply below_drew1) | exact HB.out))) : w.heap.size ≤ gb170)); clear HB; have HB := n0_; have BK170 := n1_; have GW170 := n2_; have GE170 := n3_; clear n0_ n1_ n2_ n3_; clear hb hbox hg; have hcz12_0 : w11.cell? ⟨gb170, 0, none⟩ = some (.int .i64 a0_0) := (blk_cell BK170.out 0).trans rfl; have hcz12_1 : w11.cell? ⟨gb170, 1, none⟩ = some (.int .i64 a0_1) := (blk_cell BK170.out 1).trans rfl; have hcz12_2 : w11.cell? ⟨gb170, 2, none⟩ = some (.int .i64 a0_2) := (blk_cell BK170.out 2).trans rfl; have hcz12_3 : w11.cell? ⟨gb170, 3, none⟩ = some (.int .i64 a0_3) := (blk_cell BK170.out 3).trans rfl; have hfz12_0 := blk_frozen BK170.out 0; have hfz12_1 := blk_frozen BK170.out 1; have hfz12_2 := blk_frozen BK170.out 2; have hfz12_3 := blk_frozen BK170.out 3) | ((with_reducible refine gate_callee (f := 88) rfl ?_); refine goesL_ (some 7) rfl rfl Try.func88 (by kernel_rfl) rfl #[.int .i64 a0_0, .int .i64 0, .int .i64 a0_2] rfl (by (try simp only [List.map_toArray, List.map_cons, List.map_nil]); first | done | rfl | (simp only [List.length_drop, List.length_take]; rfl)) ?_; (with_reducible refine (impl_in.calls a0_0 0 a0_2 true _ A2.out).mono ?_); rintro e w' ⟨rfl, ⟨nd, rfl⟩⟩; refine ⟨_, rfl, ?_⟩) | (go_at_call 88; (with_reducible refine (impl_in.calls a0_2 0 255 true _ A4.out).mono ?_); rintro e w' ⟨rfl, ⟨nd, rfl⟩⟩) | (go_at_call 88; (with_reducible refine (impl_in.calls a0_1 0 a0_3 false _ A6.out).mono ?_); rintro e w' ⟨rfl, ⟨nd, rfl⟩⟩))
        go_ret
        exact ⟨by first | rfl | (simp [errW_none, errW_some] <;> rfl) | (simp [*, errW_none, errW_some] <;> rfl), by repeat (first | (with_reducible first | exact HB.out | apply below_alloc | apply pw_below_drewN | apply below_drew1 | refine below_set ?_ GE170.out) | exact HB.out)⟩
    · replace c5 := Bool.eq_false_iff.mpr c5
      subst c5
      have H1 : (some false) = some r := by rw [if_neg (show ¬ (false = true) by decide)] at H; exact H
      clear H
      have H := H1
      clear H1
      obtain rfl := Option.some.inj H
      go_enter Try.func112, Try.ntmps112
      go_wp2_with (first | ((with_reducible refine gate_dst (N := 1) rfl ?_); refine box_event ?hg (N := 1) ?hd (cs := #[.int .i64 a0_0, .int .i64 a0_1, .int .i64 a0_2, .int .i64 a0_3]) (t := 32) ?hr ?_; (case hd => rfl); (case hg => rfl); (case hr => first | (go_simp; done) | (go_simp; rfl)); intro gb170 hg w13 hbox hb; have n0_ := Aside0.mk (below_step (by repeat (first | (with_reducible first | exact HB.out | apply below_alloc | apply pw_below_drewN | apply below_drew1) | exact HB.out)) hb); have n1_ := Aside0.mk (hbox); have n2_ := Aside0.mk ((by rw [hg]; exact (below_size (by repeat (first | (with_reducible first | exact HB.out | apply below_alloc | apply pw_below_drewN | apply below_drew1) | exact HB.out))) : w.heap.size ≤ gb170)); have n3_ := Aside0.mk ((by rw [hg]; exact (below_size (by repeat (first | (with_reducible first | exact HB.out | apply below_alloc | apply pw_below_drewN | apply below_drew1) | exact HB.out))) : w.heap.size ≤ gb170)); clear HB; have HB := n0_; have BK170 := n1_; have GW170 := n2_; have GE170 := n3_; clear n0_ n1_ n2_ n3_; clear hb hbox hg; have hcz14_0 : w13.cell? ⟨gb170, 0, none⟩ = some (.int .i64 a0_0) := (blk_cell BK170.out 0).trans rfl; have hcz14_1 : w13.cell? ⟨gb170, 1, none⟩ = some (.int .i64 a0_1) := (blk_cell BK170.out 1).trans rfl; have hcz14_2 : w13.cell? ⟨gb170, 2, none⟩ = some (.int .i64 a0_2) := (blk_cell BK170.out 2).trans rfl; have hcz14_3 : w13.cell? ⟨gb170, 3, none⟩ = some (.int .i64 a0_3) := (blk_cell BK170.out 3).trans rfl; have hfz14_0 := blk_frozen BK170.out 0; have hfz14_1 := blk_frozen BK170.out 1; have hfz14_2 := blk_frozen BK170.out 2; have hfz14_3 := blk_frozen BK170.out 3) | ((with_reducible refine gate_callee (f := 88) rfl ?_); refine goesL_ (some 7) rfl rfl Try.func88 (by kernel_rfl) rfl #[.int .i64 a0_0, .int .i64 0, .int .i64 a0_2] rfl (by (try simp only [List.map_toArray, List.map_cons, List.map_nil]); first | done | rfl | (simp only [List.length_drop, List.length_take]; rfl)) ?_; (with_reducible refine (impl_in.calls a0_0 0 a0_2 true _ A2.out).mono ?_); rintro e w' ⟨rfl, ⟨nd, rfl⟩⟩; refine ⟨_, rfl, ?_⟩) | (go_at_call 88; (with_reducible refine (impl_in.calls a0_2 0 255 false _ A4.out).mono ?_); rintro e w' ⟨rfl, ⟨nd, rfl⟩⟩))
      go_ret
      exact ⟨by first | rfl | (simp [errW_none, errW_some] <;> rfl) | (simp [*, errW_none, errW_some] <;> rfl), by repeat (first | (with_reducible first | exact HB.out | apply below_alloc | apply pw_below_drewN | apply below_drew1 | refine below_set ?_ GE170.out) | exact HB.out)⟩
  · replace c3 := Bool.eq_false_iff.mpr c3
    subst c3
    have H1 : (some false) = some r := by rw [if_neg (show ¬ (false = true) by decide)] at H; exact H
    clear H
    have H := H1
    clear H1
    obtain rfl := Option.some.inj H
    go_enter Try.func112, Try.ntmps112
    go_wp2_with (first | ((with_reducible refine gate_dst (N := 1) rfl ?_); refine box_event ?hg (N := 1) ?hd (cs := #[.int .i64 a0_0, .int .i64 a0_1, .int .i64 a0_2, .int .i64 a0_3]) (t := 32) ?hr ?_; (case hd => rfl); (case hg => rfl); (case hr => first | (go_simp; done) | (go_simp; rfl)); intro gb170 hg w15 hbox hb; have n0_ := Aside0.mk (below_step (by repeat (first | (with_reducible first | exact HB.out | apply below_alloc | apply pw_below_drewN | apply below_drew1) | exact HB.out)) hb); have n1_ := Aside0.mk (hbox); have n2_ := Aside0.mk ((by rw [hg]; exact (below_size (by repeat (first | (with_reducible first | exact HB.out | apply below_alloc | apply pw_below_drewN | apply below_drew1) | exact HB.out))) : w.heap.size ≤ gb170)); have n3_ := Aside0.mk ((by rw [hg]; exact (below_size (by repeat (first | (with_reducible first | exact HB.out | apply below_alloc | apply pw_below_drewN | apply below_drew1) | exact HB.out))) : w.heap.size ≤ gb170)); clear HB; have HB := n0_; have BK170 := n1_; have GW170 := n2_; have GE170 := n3_; clear n0_ n1_ n2_ n3_; clear hb hbox hg; have hcz16_0 : w15.cell? ⟨gb170, 0, none⟩ = some (.int .i64 a0_0) := (blk_cell BK170.out 0).trans rfl; have hcz16_1 : w15.cell? ⟨gb170, 1, none⟩ = some (.int .i64 a0_1) := (blk_cell BK170.out 1).trans rfl; have hcz16_2 : w15.cell? ⟨gb170, 2, none⟩ = some (.int .i64 a0_2) := (blk_cell BK170.out 2).trans rfl; have hcz16_3 : w15.cell? ⟨gb170, 3, none⟩ = some (.int .i64 a0_3) := (blk_cell BK170.out 3).trans rfl; have hfz16_0 := blk_frozen BK170.out 0; have hfz16_1 := blk_frozen BK170.out 1; have hfz16_2 := blk_frozen BK170.out 2; have hfz16_3 := blk_frozen BK170.out 3) | ((with_reducible refine gate_callee (f := 88) rfl ?_); refine goesL_ (some 7) rfl rfl Try.func88 (by kernel_rfl) rfl #[.int .i64 a0_0, .int .i64 0, .int .i64 a0_2] rfl (by (try simp only [List.map_toArray, List.map_cons, List.map_nil]); first | done | rfl | (simp only [List.length_drop, List.length_take]; rfl)) ?_; (with_reducible refine (impl_in.calls a0_0 0 a0_2 false _ A2.out).mono ?_); rintro e w' ⟨rfl, ⟨nd, rfl⟩⟩; refine ⟨_, rfl, ?_⟩))
    go_ret
    exact ⟨by first | rfl | (simp [errW_none, errW_some] <;> rfl) | (simp [*, errW_none, errW_some] <;> rfl), by repeat (first | (with_reducible first | exact HB.out | apply below_alloc | apply pw_below_drewN | apply below_drew1 | refine below_set ?_ GE170.out) | exact HB.out)⟩

end Go.Proofs.Ytngjaajcdbodeaa.All
