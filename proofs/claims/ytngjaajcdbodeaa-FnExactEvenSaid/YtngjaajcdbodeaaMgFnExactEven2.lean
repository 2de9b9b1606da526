/- The texts on which the row FnExactEven rests, part 2: contracts of the functions that it reaches and plain laws of what they compute. No condition. -/
import Derived.Test.YtngjaajcdbodeaaMgFnExactEven1
namespace Go.Proofs.Ytngjaajcdbodeaa.All
open Go.RowKit Go.Proofs.YtngjaajcdbodeaaW.PrintWords Go.Proofs.YtngjaajcdbodeaaW.PrintLast Go.Proofs.YtngjaajcdbodeaaW.PrintMore
attribute [local go_sem] max2_int min2_int max_two min_two max_three min_three max_four min_four   -- for this text's walks alone
set_option linter.unusedVariables false
set_option linter.unusedSimpArgs false

/-! ### impl_SameNode: function 91 -/
def impl_SameNode.f (k : Nat) (a0_0 : Bool) (l0_1 : List (S103)) (a1_0 : Bool) (l1_1 : List (S103)) : Option (Bool) := if (a0_0 == a1_0) = true then ((slices_Equal_Entry.f k l0_1 l1_1).bind fun t625 => (some t625)) else (some false)
theorem impl_SameNode.mono : ∀ a0 a1 a2 a3 k, LeO (impl_SameNode.f k a0 a1 a2 a3) (impl_SameNode.f (k + 1) a0 a1 a2 a3) := by
  intro a0 a1 a2 a3 k
  unfold impl_SameNode.f
  repeat' first
      | (with_reducible exact slices_Equal_Entry.mono _ _ _)
      | (with_reducible exact LeO.refl _)
      | (with_reducible exact LeO.none _)
      | (with_reducible refine LeO.ite ?_ ?_)
      | (with_reducible refine LeO.bind ?_ (fun _ => ?_))
      | exact slices_Equal_Entry.mono _ _ _
      | exact LeO.none _
      | refine LeO.ite ?_ ?_
      | refine LeO.bind ?_ (fun _ => ?_)
set_option maxHeartbeats 8000000 in
set_option maxRecDepth 100000 in
theorem impl_SameNode.calls (k : Nat) (a0_0 : Bool) (A0_1 : Option Addr) (c0_1 : Nat) (l0_1 : List (S103)) (a1_0 : Bool) (A1_1 : Option Addr) (c1_1 : Nat) (l1_1 : List (S103)) (r : Bool) (w : World) (hr0_1 : Kd.C k103 w A0_1 l0_1.length l0_1) (hc0_1 : l0_1.length ≤ c0_1) (hr1_1 : Kd.C k103 w A1_1 l1_1.length l1_1) (hc1_1 : l1_1.length ≤ c1_1) (h : impl_SameNode.f k a0_0 l0_1 a1_0 l1_1 = some r) :
    Calls Try.prog 91 #[.agg #[.bool a0_0, .slice A0_1 l0_1.length c0_1], .agg #[.bool a1_0, .slice A1_1 l1_1.length c1_1]] w fun e w' => e = .returned (.bool r) ∧ Below w.heap.size w w' := by
  have hu54 := Try.underlying54
  have HR0_1 := Aside0.mk hr0_1
  have HC0_1 := Aside0.mk hc0_1
  clear hr0_1 hc0_1
  have HR1_1 := Aside0.mk hr1_1
  have HC1_1 := Aside0.mk hc1_1
  clear hr1_1 hc1_1
  have HB := Aside0.mk (Below.refl w.heap.size w)
  have H : (if (a0_0 == a1_0) = true then ((slices_Equal_Entry.f k l0_1 l1_1).bind fun t625 => (some t625)) else (some false)) = some r := h
  clear h
  by_cases c3 : (a0_0 == a1_0) = true
  · rw [if_pos c3] at H
    have c3b0 : (a0_0 == a1_0) = true := c3
    (try (have c3b1 : decide (a0_0 = a1_0) = true := by simpa using c3))
    (try (have c3b2 : (a0_0 == a1_0) = true := by simpa using c3))
    clear c3
    replace H := Option.bind_eq_some_iff.mp H
    obtain ⟨t625, A40, H⟩ := H
    replace H : (some t625) = some r := H
    have A4 := Aside0.mk A40
    clear A40
    obtain rfl := Option.some.inj H
    go_enter Try.func91, Try.ntmps91
    go_wp2_with (first | ((with_reducible refine gate_dst (N := 2) rfl ?_); refine box_event ?hg (N := 2) ?hd (cs := #[.bool a0_0, .slice A0_1 l0_1.length c0_1]) (t := 54) ?hr ?_; (case hd => rfl); (case hg => rfl); (case hr => first | (go_simp; done) | (go_simp; rfl)); intro gb623 hg w5 hbox hb; have n0_ := Aside0.mk (below_step (by repeat (first | (with_reducible first | exact HB.out | apply below_alloc | apply pw_below_drewN | apply below_drew1) | exact HB.out)) hb); have n1_ := Aside0.mk (hbox); have n2_ := Aside0.mk ((by rw [hg]; exact (below_size (by repeat (first | (with_reducible first | exact HB.out | apply below_alloc | apply pw_below_drewN | apply below_drew1) | exact HB.out))) : w.heap.size ≤ gb623)); have n3_ := Aside0.mk ((by rw [hg]; exact (below_size (by repeat (first | (with_reducible first | exact HB.out | apply below_alloc | apply pw_below_drewN | apply below_drew1) | exact HB.out))) : w.heap.size ≤ gb623)); clear HB; have HB := n0_; have BK623 := n1_; have GW623 := n2_; have GE623 := n3_; clear n0_ n1_ n2_ n3_; clear hb hbox hg) | ((with_reducible refine gate_dst (N := 3) rfl ?_); refine box_event ?hg (N := 3) ?hd (cs := #[.bool a1_0, .slice A1_1 l1_1.length c1_1]) (t := 54) ?hr ?_; (case hd => rfl); (case hg => rfl); (case hr => first | (go_simp; done) | (go_simp; rfl)); intro gb624 hg w6 hbox hb; have n0_ := Aside0.mk (blk_below (g := gb623) (o := .cells #[.bool a0_0, .slice A0_1 l0_1.length c0_1] 54 (0, 0)) (by (with_reducible repeat (first | refine blk_drewN ?_ _ | refine blk_drew ?_ | refine blk_alloc ?_ _)); exact BK623.out) hb); have n1_ := Aside0.mk (below_step (by repeat (first | (with_reducible first | exact HB.out | apply below_alloc | apply pw_below_drewN | apply below_drew1 | refine below_set ?_ GE623.out) | exact HB.out)) hb); have n2_ := Aside0.mk (hbox); have n3_ := Aside0.mk ((by rw [hg]; exact (below_size (by repeat (first | (with_reducible first | exact HB.out | apply below_alloc | apply pw_below_drewN | apply below_drew1 | refine below_set ?_ GE623.out) | exact HB.out))) : w.heap.size ≤ gb624)); have n4_ := Aside0.mk ((by rw [hg]; exact (below_size (by repeat (first | (with_reducible first | exact HB.out | apply below_alloc | apply pw_below_drewN | apply below_drew1 | refine below_set ?_ GE623.out) | exact HB.out))) : w.heap.size ≤ gb624)); have n5_ := Aside0.mk ((by rw [hg]; exact Nat.ne_of_lt (blk_lt (g := gb623) (o := .cells #[.bool a0_0, .slice A0_1 l0_1.length c0_1] 54 (0, 0)) (by (with_reducible repeat (first | refine blk_drewN ?_ _ | refine blk_drew ?_ | refine blk_alloc ?_ _)); exact BK623.out)) : gb623 ≠ gb624)); have n6_ := Aside0.mk ((by rw [hg]; exact Nat.ne_of_gt (blk_lt (g := gb623) (o := .cells #[.bool a0_0, .slice A0_1 l0_1.length c0_1] 54 (0, 0)) (by (with_reducible repeat (first | refine blk_drewN ?_ _ | refine blk_drew ?_ | refine blk_alloc ?_ _)); exact BK623.out)) : gb624 ≠ gb623)); clear BK623; clear HB; have BK623 := n0_; have HB := n1_; have BK624 := n2_; have GW624 := n3_; have GE624 := n4_; have NB623_624 := n5_; have NB624_623 := n6_; clear n0_ n1_ n2_ n3_ n4_ n5_ n6_; clear hb hbox hg; have hnb7 := NB623_624.out; have hnc7 := NB624_623.out; have hcz8_0 : w6.cell? ⟨gb623, 0, none⟩ = some (.bool a0_0) := (blk_cell BK623.out 0).trans rfl; have hcz8_1 : w6.cell? ⟨gb623, 1, none⟩ = some (.slice A0_1 l0_1.length c0_1) := (blk_cell BK623.out 1).trans rfl; have hfz8_0 := blk_frozen BK623.out 0; have hfz8_1 := blk_frozen BK623.out 1; have hcz9_0 : w6.cell? ⟨gb624, 0, none⟩ = some (.bool a1_0) := (blk_cell BK624.out 0).trans rfl; have hcz9_1 : w6.cell? ⟨gb624, 1, none⟩ = some (.slice A1_1 l1_1.length c1_1) := (blk_cell BK624.out 1).trans rfl; have hfz9_0 := blk_frozen BK624.out 0; have hfz9_1 := blk_frozen BK624.out 1) | (go_at_call 126; (with_reducible refine (slices_Equal_Entry.calls k _ _ l0_1 _ _ l1_1 t625 _ ?side1 ?side2 ?side3 ?side4 A4.out).mono ?_); (case side1 => repeat (first | exact (Kd.C_below HR0_1.out HB.out) | (with_reducible refine Kd.C_alloc ?_ _) | (with_reducible refine Kd.C_drewN ?_ _) | (with_reducible refine Kd.C_drew ?_))); (case side2 => exact HC0_1.out); (case side3 => repeat (first | exact (Kd.C_below HR1_1.out HB.out) | (with_reducible refine Kd.C_alloc ?_ _) | (with_reducible refine Kd.C_drewN ?_ _) | (with_reducible refine Kd.C_drew ?_))); (case side4 => exact HC1_1.out); rintro e w' ⟨rfl, ⟨nd, rfl⟩⟩))
    go_ret
    exact ⟨by first | rfl | (simp [errW_none, errW_some] <;> rfl) | (simp [*, errW_none, errW_some] <;> rfl), by repeat (first | (with_reducible first | exact HB.out | apply below_alloc | apply pw_below_drewN | apply below_drew1 | refine below_set ?_ GE623.out | refine below_set ?_ GE624.out) | exact HB.out)⟩
  · rw [if_neg c3] at H
    have c3b0 : (a0_0 == a1_0) = false := by simpa using c3
    (try (have c3b1 : decide (a0_0 = a1_0) = false := by simpa using c3))
    (try (have c3b2 : (a0_0 == a1_0) = false := by simpa using c3))
    (try (have c3b3 : ¬ (a0_0 = a1_0) := by simpa using c3))
    clear c3
    obtain rfl := Option.some.inj H
    go_enter Try.func91, Try.ntmps91
    go_wp2_with (first | ((with_reducible refine gate_dst (N := 2) rfl ?_); refine box_event ?hg (N := 2) ?hd (cs := #[.bool a0_0, .slice A0_1 l0_1.length c0_1]) (t := 54) ?hr ?_; (case hd => rfl); (case hg => rfl); (case hr => first | (go_simp; done) | (go_simp; rfl)); intro gb623 hg w10 hbox hb; have n0_ := Aside0.mk (below_step (by repeat (first | (with_reducible first | exact HB.out | apply below_alloc | apply pw_below_drewN | apply below_drew1) | exact HB.out)) hb); have n1_ := Aside0.mk (hbox); have n2_ := Aside0.mk ((by rw [hg]; exact (below_size (by repeat (first | (with_reducible first | exact HB.out | apply below_alloc | apply pw_below_drewN | apply below_drew1) | exact HB.out))) : w.heap.size ≤ gb623)); have n3_ := Aside0.mk ((by rw [hg]; exact (below_size (by repeat (first | (with_reducible first | exact HB.out | apply below_alloc | apply pw_below_drewN | apply below_drew1) | exact HB.out))) : w.heap.size ≤ gb623)); clear HB; have HB := n0_; have BK623 := n1_; have GW623 := n2_; have GE623 := n3_; clear n0_ n1_ n2_ n3_; clear hb hbox hg) | ((with_reducible refine gate_dst (N := 3) rfl ?_); refine box_event ?hg (N := 3) ?hd (cs := #[.bool a1_0, .slice A1_1 l1_1.length c1_1]) (t := 54) ?hr ?_; (case hd => rfl); (case hg => rfl); (case hr => first | (go_simp; done) | (go_simp; rfl)); intro gb624 hg w11 hbox hb; have n0_ := Aside0.mk (blk_below (g := gb623) (o := .cells #[.bool a0_0, .slice A0_1 l0_1.length c0_1] 54 (0, 0)) (by (with_reducible repeat (first | refine blk_drewN ?_ _ | refine blk_drew ?_ | refine blk_alloc ?_ _)); exact BK623.out) hb); have n1_ := Aside0.mk (below_step (by repeat (first | (with_reducible first | exact HB.out | apply below_alloc | apply pw_below_drewN | apply below_drew1 | refine below_set ?_ GE623.out) | exact HB.out)) hb); have n2_ := Aside0.mk (hbox); have n3_ := Aside0.mk ((by rw [hg]; exact (below_size (by repeat (first | (with_reducible first | exact HB.out | apply below_alloc | apply pw_below_drewN | apply below_drew1 | refine below_set ?_ GE623.out) | exact HB.out))) : w.heap.size ≤ gb624)); have n4_ := Aside0.mk ((by rw [hg]; exact (below_size (by repeat (first | (with_reducible first | exact HB.out | apply below_alloc | apply pw_below_drewN | apply below_drew1 | refine below_set ?_ GE623.out) | exact HB.out))) : w.heap.size ≤ gb624)); have n5_ := Aside0.mk ((by rw [hg]; exact Nat.ne_of_lt (blk_lt (g := gb623) (o := .cells #[.bool a0_0, .slice A0_1 l0_1.length c0_1] 54 (0, 0)) (by (with_reducible repeat (first | refine blk_drewN ?_ _ | refine blk_drew ?_ | refine blk_alloc ?_ _)); exact BK623.out)) : gb623 ≠ gb624)); have n6_ := Aside0.mk ((by rw [hg]; exact Nat.ne_of_gt (blk_lt (g := gb623) (o := .cells #[.bool a0_0, .slice A0_1 l0_1.length c0_1] 54 (0, 0)) (by (with_reducible repeat (first | refine blk_drewN ?_ _ | refine blk_drew ?_ | refine blk_alloc ?_ _)); exact BK623.out)) : gb624 ≠ gb623)); clear BK623; clear HB; have BK623 := n0_; have HB := n1_; have BK624 := n2_; have GW624 := n3_; have GE624 := n4_; have NB623_624 := n5_; have NB624_623 := n6_; clear n0_ n1_ n2_ n3_ n4_ n5_ n6_; clear hb hbox hg; have hnb12 := NB623_624.out; have hnc12 := NB624_623.out; have hcz13_0 : w11.cell? ⟨gb623, 0, none⟩ = some (.bool a0_0) := (blk_cell BK623.out 0).trans rfl; have hcz13_1 : w11.cell? ⟨gb623, 1, none⟩ = some (.slice A0_1 l0_1.length c0_1) := (blk_cell BK623.out 1).trans rfl; have hfz13_0 := blk_frozen BK623.out 0; have hfz13_1 := blk_frozen BK623.out 1; have hcz14_0 : w11.cell? ⟨gb624, 0, none⟩ = some (.bool a1_0) := (blk_cell BK624.out 0).trans rfl; have hcz14_1 : w11.cell? ⟨gb624, 1, none⟩ = some (.slice A1_1 l1_1.length c1_1) := (blk_cell BK624.out 1).trans rfl; have hfz14_0 := blk_frozen BK624.out 0; have hfz14_1 := blk_frozen BK624.out 1))
    go_ret
    exact ⟨by first | rfl | (simp [errW_none, errW_some] <;> rfl) | (simp [*, errW_none, errW_some] <;> rfl), by repeat (first | (with_reducible first | exact HB.out | apply below_alloc | apply pw_below_drewN | apply below_drew1 | refine below_set ?_ GE623.out | refine below_set ?_ GE624.out) | exact HB.out)⟩

end Go.Proofs.Ytngjaajcdbodeaa.All

namespace Go.Proofs.Ytngjaajcdbodeaa.All
open Go.RowKit Go.Proofs.YtngjaajcdbodeaaW.PrintWords Go.Proofs.YtngjaajcdbodeaaW.PrintLast Go.Proofs.YtngjaajcdbodeaaW.PrintMore
attribute [local go_sem] max2_int min2_int max_two min_two max_three min_three max_four min_four   -- for this text's walks alone
set_option linter.unusedVariables false
set_option linter.unusedSimpArgs false

/-! ### impl_Reach: function 92 -/
def impl_Reach.f (k : Nat) (a0_0 : Int) (l0_1 : List (S90)) : Option (List Int) := (impl_reachFrom.f k a0_0 l0_1 a0_0).bind fun t627 => (some t627)
theorem impl_Reach.mono : ∀ a0 a1 k, LeO (impl_Reach.f k a0 a1) (impl_Reach.f (k + 1) a0 a1) := by
  intro a0 a1 k
  unfold impl_Reach.f
  repeat' first
      | (with_reducible exact impl_reachFrom.mono _ _ _ _)
      | (with_reducible exact LeO.refl _)
      | (with_reducible exact LeO.none _)
      | (with_reducible refine LeO.ite ?_ ?_)
      | (with_reducible refine LeO.bind ?_ (fun _ => ?_))
      | exact impl_reachFrom.mono _ _ _ _
      | exact LeO.none _
      | refine LeO.ite ?_ ?_
      | refine LeO.bind ?_ (fun _ => ?_)
set_option maxHeartbeats 8000000 in
set_option maxRecDepth 100000 in
theorem impl_Reach.calls (k : Nat) (a0_0 : Int) (A0_1 : Option Addr) (c0_1 : Nat) (l0_1 : List (S90)) (r : List Int) (w : World) (hr0_1 : Kd.C k90 w A0_1 l0_1.length l0_1) (hc0_1 : l0_1.length ≤ c0_1) (h : impl_Reach.f k a0_0 l0_1 = some r) :
    Calls Try.prog 92 #[.agg #[.int .i64 a0_0, .slice A0_1 l0_1.length c0_1]] w fun e w' => ∃ v0_ : Value, e = .returned (v0_) ∧ Kd.R (Kd.int .i64) 3 w' w.heap.size (fun _ => True) v0_ r ∧ Below w.heap.size w w' := by
  have hu49 := Try.underlying49
  have HR0_1 := Aside0.mk hr0_1
  have HC0_1 := Aside0.mk hc0_1
  clear hr0_1 hc0_1
  have HB := Aside0.mk (Below.refl w.heap.size w)
  have H : ((impl_reachFrom.f k a0_0 l0_1 a0_0).bind fun t627 => (some t627)) = some r := h
  clear h
  replace H := Option.bind_eq_some_iff.mp H
  obtain ⟨t627, A20, H⟩ := H
  replace H : (some t627) = some r := H
  have A2 := Aside0.mk A20
  clear A20
  obtain rfl := Option.some.inj H
  go_enter Try.func92, Try.ntmps92
  go_wp2_with (first | ((with_reducible refine gate_dst (N := 1) rfl ?_); refine box_event ?hg (N := 1) ?hd (cs := #[.int .i64 a0_0, .slice A0_1 l0_1.length c0_1]) (t := 49) ?hr ?_; (case hd => rfl); (case hg => rfl); (case hr => first | (go_simp; done) | (go_simp; rfl)); intro gb626 hg w3 hbox hb; have n0_ := Aside0.mk (below_step (by repeat (first | (with_reducible first | exact HB.out | apply below_alloc | apply pw_below_drewN | apply below_drew1) | exact HB.out)) hb); have n1_ := Aside0.mk (hbox); have n2_ := Aside0.mk ((by rw [hg]; exact (below_size (by repeat (first | (with_reducible first | exact HB.out | apply below_alloc | apply pw_below_drewN | apply below_drew1) | exact HB.out))) : w.heap.size ≤ gb626)); have n3_ := Aside0.mk ((by rw [hg]; exact (below_size (by repeat (first | (with_reducible first | exact HB.out | apply below_alloc | apply pw_below_drewN | apply below_drew1) | exact HB.out))) : w.heap.size ≤ gb626)); clear HB; have HB := n0_; have BK626 := n1_; have GW626 := n2_; have GE626 := n3_; clear n0_ n1_ n2_ n3_; clear hb hbox hg; have hcz4_0 : w3.cell? ⟨gb626, 0, none⟩ = some (.int .i64 a0_0) := (blk_cell BK626.out 0).trans rfl; have hcz4_1 : w3.cell? ⟨gb626, 1, none⟩ = some (.slice A0_1 l0_1.length c0_1) := (blk_cell BK626.out 1).trans rfl; have hfz4_0 := blk_frozen BK626.out 0; have hfz4_1 := blk_frozen BK626.out 1) | ((with_reducible refine gate_callee (f := 127) rfl ?_); refine goesL_ (some 6) rfl rfl Try.func127 (by kernel_rfl) rfl #[.agg #[.int .i64 a0_0, .slice A0_1 l0_1.length c0_1], .int .i64 a0_0] rfl (by (try simp only [List.map_toArray, List.map_cons, List.map_nil]); first | done | rfl | (simp only [List.length_drop, List.length_take]; rfl)) ?_; (with_reducible refine (impl_reachFrom.calls k a0_0 _ _ l0_1 a0_0 t627 _ ?side1 ?side2 A2.out).mono ?_); (case side1 => repeat (first | exact (Kd.C_below HR0_1.out HB.out) | (with_reducible refine Kd.C_alloc ?_ _) | (with_reducible refine Kd.C_drewN ?_ _) | (with_reducible refine Kd.C_drew ?_))); (case side2 => exact HC0_1.out); rintro e w5 ⟨v628, rfl, ho0, hb⟩; refine ⟨_, rfl, ?_⟩; have n0_ := Aside0.mk (Kd.R_lower ho0 (below_size (by repeat (first | (with_reducible first | exact HB.out | apply below_alloc | apply pw_below_drewN | apply below_drew1 | refine below_set ?_ GE626.out) | exact HB.out)))); have n1_ := Aside0.mk (blk_below (g := gb626) (o := .cells #[.int .i64 a0_0, .slice A0_1 l0_1.length c0_1] 49 (0, 0)) (by (with_reducible repeat (first | refine blk_drewN ?_ _ | refine blk_drew ?_ | refine blk_alloc ?_ _)); exact BK626.out) hb); have n2_ := Aside0.mk (below_step (by repeat (first | (with_reducible first | exact HB.out | apply below_alloc | apply pw_below_drewN | apply below_drew1 | refine below_set ?_ GE626.out) | exact HB.out)) hb); clear BK626; clear HB; have HO629 := n0_; have BK626 := n1_; have HB := n2_; clear n0_ n1_ n2_; (try clear hb); (try clear hb2); (try clear hk); (try clear hi); (try clear ho0)))
  go_ret
  exact ⟨_, by first | rfl | (simp [errW_none, errW_some] <;> rfl) | (simp [*, errW_none, errW_some] <;> rfl), by (with_reducible repeat (first | apply Kd.R_alloc | apply Kd.R_drewN | apply Kd.R_drew)); exact HO629.out, by repeat (first | (with_reducible first | exact HB.out | apply below_alloc | apply pw_below_drewN | apply below_drew1 | refine below_set ?_ GE626.out) | exact HB.out)⟩

end Go.Proofs.Ytngjaajcdbodeaa.All

/- The program's BookOk comes to a plain test over the pages and over the pages that are reached. No condition. -/
namespace Go.Proofs.Ytngjaajcdbodeaa.All
open Go.RowKit Go.Proofs.YtngjaajcdbodeaaW.PrintWords Go.Proofs.YtngjaajcdbodeaaW.PrintLast Go.Proofs.YtngjaajcdbodeaaW.PrintMore
set_option linter.unusedVariables false
set_option linter.unusedSimpArgs false


/-! ### impl_BookOk: by hand -/
/-- The pages, from x on, each by itself. -/
def bokP : Nat → List S90 → Int → Option Bool
  | 0, _, _ => none
  | k + 1, ps, x => if x < (ps.length : Int) then (if 0 ≤ x then (if (rd_T90 ps x).f0 = true then ((impl_NodeOk.f k (rd_T90 ps x).f1.f0 (rd_T90 ps x).f1.f1).bind fun t => if t = true then bokP k ps (wrap64 (x + 1)) else some false) else ((impl_SameNode.f k (rd_T90 ps x).f1.f0 (rd_T90 ps x).f1.f1 false []).bind fun t => if t = true then bokP k ps (wrap64 (x + 1)) else some false)) else none) else some true
/-- A page's entries, from y on, behind those that were told; none inside: told twice, or not there. -/
def bokE : Nat → List S90 → List S103 → List Int → Int → Option (Option (List Int))
  | 0, _, _, _, _ => none
  | k + 1, ps, es, told, y => if y < (es.length : Int) then (if 0 ≤ y then (if told.length < 17592186044415 then (if pgOk ps (rd_T103 es y).f0 then (if (rd_T103 es y).f0 ∈ told then some none else bokE k ps es (told ++ [(rd_T103 es y).f0]) (wrap64 (y + 1))) else some none) else none) else none) else some (some told)
/-- The pages that are reached, from x on. -/
def bokR : Nat → List S90 → List Int → List Int → Int → Option Bool
  | 0, _, _, _, _ => none
  | k + 1, ps, r, told, x => if x < (r.length : Int) then (if 0 ≤ x then (if 0 ≤ rd r x then (if rd r x < (ps.length : Int) then (if (rd_T90 ps (rd r x)).f1.f0 = true then bokR k ps r told (wrap64 (x + 1)) else ((bokE k ps (rd_T90 ps (rd r x)).f1.f1 told 0).bind fun o => match o with | none => some false | some t => bokR k ps r t (wrap64 (x + 1)))) else none) else none) else none) else some true
def impl_BookOk.f (k : Nat) (a0_0 : Int) (l0_1 : List S90) : Option Bool := if 1 ≤ (l0_1.length : Int) ∧ (l0_1.length : Int) ≤ 48 then (if pgOk l0_1 a0_0 then ((bokP k l0_1 0).bind fun b => if b = true then ((impl_Reach.f k a0_0 l0_1).bind fun r => bokR k l0_1 r [a0_0] 0) else some false) else some false) else some false
theorem bokP_mono : ∀ k ps x, LeO (bokP k ps x) (bokP (k + 1) ps x)
  | 0, _, _ => fun r h => by simp [bokP] at h
  | k + 1, ps, x => by
    have ih := bokP_mono k
    rw [bokP, bokP]
    exact LeO.ite (LeO.ite (LeO.ite (LeO.bind (impl_NodeOk.mono _ _ _) (fun _ => LeO.ite (ih _ _) (LeO.refl _))) (LeO.bind (impl_SameNode.mono _ _ _ _ _) (fun _ => LeO.ite (ih _ _) (LeO.refl _)))) (LeO.refl _)) (LeO.refl _)
theorem bokE_mono : ∀ k ps es t y, LeO (bokE k ps es t y) (bokE (k + 1) ps es t y)
  | 0, _, _, _, _ => fun r h => by simp [bokE] at h
  | k + 1, ps, es, t, y => by
    have ih := bokE_mono k
    rw [bokE, bokE]
    exact LeO.ite (LeO.ite (LeO.ite (LeO.ite (LeO.ite (LeO.refl _) (ih _ _ _ _)) (LeO.refl _)) (LeO.refl _)) (LeO.refl _)) (LeO.refl _)
theorem bokR_mono : ∀ k ps r t x, LeO (bokR k ps r t x) (bokR (k + 1) ps r t x)
  | 0, _, _, _, _ => fun r h => by simp [bokR] at h
  | k + 1, ps, r, t, x => by
    have ih := bokR_mono k
    rw [bokR, bokR]
    refine LeO.ite (LeO.ite (LeO.ite (LeO.ite (LeO.ite (ih _ _ _ _) (LeO.bind (bokE_mono _ _ _ _ _) (fun o => ?_))) (LeO.refl _)) (LeO.refl _)) (LeO.refl _)) (LeO.refl _)
    cases o with
    | none => exact LeO.refl _
    | some t => exact ih _ _ _ _
theorem impl_BookOk.mono : ∀ a0 a1 k, LeO (impl_BookOk.f k a0 a1) (impl_BookOk.f (k + 1) a0 a1) := fun a0 a1 k => by
  unfold impl_BookOk.f
  exact LeO.ite (LeO.ite (LeO.bind (bokP_mono _ _ _) (fun _ => LeO.ite (LeO.bind (impl_Reach.mono _ _ _) (fun _ => bokR_mono _ _ _ _ _)) (LeO.refl _))) (LeO.refl _)) (LeO.refl _)
theorem in_f (a b c : Int) : impl_in.f a b c = some (decide (b ≤ a ∧ a ≤ c)) := by
  unfold impl_in.f
  split <;> simp_all
  omega
theorem gate_ins {P : Program} {ops : Array Oper} {rest : List Oper} {o : Oper} {a : Act} {Q : Exit → Act → World → Prop} {W : World} {t : TypeId} {m k v : Operand} (_ho : o.op = .insert t m k v) (h : wpList P ops Q (o :: rest) a W) : wpList P ops Q (o :: rest) a W := h
theorem wpList_insert_own {H : Type} {P : Program} (w : World) {ops : Array Oper} {rest : List Oper} {o : Oper} {a : Act} {Q : Exit → Act → World → Prop}
    (hg : o.guard = none) (m x v : Operand) (t : TypeId) (hop : o.op = Op.insert t m x v)
    (k e : TypeId) (K : Go.Maps.Keyed P k) (ht : P.underlying t = some (.map k e)) (R : Value → Option (DataW H × List MemPlace)) (b n : Nat) (D : DataW H)
    (hm : a.eval m = .map (some b)) (hown : w.ownsMap P k R b n D) (hn : n < maxLen) (key val : Value) (kl : Lit) (hx : a.eval x = key) (hv : a.eval v = val) (hkey : keyOf P k key = some kl)
    (d : DataW H) (ps : List MemPlace) (hval : R val = some (d, ps))
    (hK : ∀ w', w'.ownsMap P k R b (n + 1) (D.put kl d) → w.grownBy w' (some b) → wpList P ops Q rest (a.put o.dst undef) w') :
    wpList P ops Q (o :: rest) a w := by
  refine wpList_plain hg fun K' hK' => ?_
  obtain ⟨w', hrun, r1, r2⟩ := hown.update K ht hn hkey hval
  unfold Oper.wp
  simp [execOp, hop, hm, hx, hv, hrun, Result.andThen]
  exact hK' _ _ (hK w' r1 r2)
theorem wf_page {ps : List S90} {i : Int} (hl : ps.length ≤ 9223372036854775807) (h : pgOk ps i) : (Lit.int .i64 i).wf = true := by
  have h2 := h.1
  have h3 := h.2.1
  unfold Lit.wf
  rw [Bool.and_eq_true, decide_eq_true_eq, decide_eq_true_eq]
  have e1 : IntKind.i64.min = -9223372036854775808 := by decide
  have e2 : IntKind.i64.max = 9223372036854775807 := by decide
  rw [e1, e2]
  omega
theorem R_mapped {α : Type} {d : Kd α} {e base : Nat} {ok : Nat → Prop} {w w' : World} {v : Value} {xs : List α} {bm : Nat} {out : List Int} (h : Kd.R d e w base ok v xs) (hm : MetOk w bm out) (hg : w.grownBy w' (some bm)) : Kd.R d e w' base ok v xs := by
  obtain ⟨es, clock, hmm⟩ := hm.isMap
  refine Kd.R_mono (Kd.R_step (Kd.R_bound h) (fun k hk hlt => hg.block k hlt ?_)) (fun _ hk => hk.1)
  obtain ⟨_, _, _, q, hq, cells, hc⟩ := hk
  exact cells_ne_map hc hmm
theorem blk_mapped {w w' : World} {g bm : Nat} {cs : Array Value} {t : TypeId} {out : List Int} (h : w.heap[g]? = some (.cells cs t (0, 0))) (hm : MetOk w bm out) (hg : w.grownBy w' (some bm)) : w'.heap[g]? = some (.cells cs t (0, 0)) := by
  obtain ⟨es, clock, hmm⟩ := hm.isMap
  exact blk_grown h hg (cells_ne_map h hmm)
theorem below_mapped {w0 w w' : World} {bm : Nat} (h : Below w0.heap.size w0 w) (hg : w.grownBy w' (some bm)) (hb : w0.heap.size ≤ bm) : Below w0.heap.size w0 w' := h.grown hg h.size (fun k hk => by injection hk with hk; rw [← hk]; exact hb)

set_option maxHeartbeats 8000000 in
set_option maxRecDepth 100000 in
theorem impl_BookOk.calls (k : Nat) (a0_0 : Int) (A0_1 : Option Addr) (c0_1 : Nat) (l0_1 : List (S90)) (r : Bool) (w : World) (hr0_1 : Kd.C k90 w A0_1 l0_1.length l0_1) (hc0_1 : l0_1.length ≤ c0_1) (h : impl_BookOk.f k a0_0 l0_1 = some r) :
    Calls Try.prog 42 #[.agg #[.int .i64 a0_0, .slice A0_1 l0_1.length c0_1]] w fun e w' => e = .returned (.bool r) ∧ Below w.heap.size w w' := by
  have HR := Aside0.mk hr0_1
  have HC := Aside0.mk hc0_1
  have HMAX := Aside0.mk (show l0_1.length ≤ 9223372036854775807 from hr0_1.2.1)
  clear hr0_1 hc0_1
  have HB := Aside0.mk (Below.refl w.heap.size w)
  have hu1 := Try.underlying90
  have hu2 := Try.underlying49
  have hu3 := Try.underlying54
  have hu4 := Try.underlying103
  have HIN := Aside0.mk (in_f (l0_1.length : Int) 1 48)
  unfold impl_BookOk.f at h
  by_cases c1 : 1 ≤ (l0_1.length : Int) ∧ (l0_1.length : Int) ≤ 48
  rotate_left
  · rw [if_neg c1] at h
    obtain rfl := Option.some.inj h
    rw [decide_eq_false c1] at HIN
    clear h c1
    go_enter Try.func42, Try.ntmps42
    go_wp2_with (first
      | ((with_reducible refine gate_dst (N := 1) rfl ?_); refine box_event ?hg (N := 1) ?hd (cs := #[.int .i64 a0_0, .slice A0_1 l0_1.length c0_1]) (t := 49) ?hr ?_; (case hd => rfl); (case hg => rfl); (case hr => first | (go_simp; done) | (go_simp; rfl)); intro g1 hg w1 hbox hb; have nHB_ := Aside0.mk (below_step HB.out hb); clear HB; have HB := nHB_; clear nHB_; have BK1 := Aside0.mk hbox; clear hb hg hbox; have hk1_0 : w1.cell? ⟨g1, 0, none⟩ = some (.int .i64 a0_0) := (blk_cell BK1.out 0).trans rfl; have hk1_1 : w1.cell? ⟨g1, 1, none⟩ = some (.slice A0_1 l0_1.length c0_1) := (blk_cell BK1.out 1).trans rfl)
      | ((with_reducible refine gate_dst (N := 13) rfl ?_); refine goesL_ (some 13) rfl rfl Try.func88 (by kernel_rfl) rfl #[.int .i64 (l0_1.length : Int), .int .i64 1, .int .i64 48] rfl (by (try simp only [List.map_toArray, List.map_cons, List.map_nil]); first | done | rfl | (simp only [List.length_drop, List.length_take]; rfl)) ?_; refine (impl_in.calls (l0_1.length : Int) 1 48 false _ HIN.out).mono ?_; rintro e w2 ⟨rfl, hd⟩; refine ⟨_, rfl, ?_⟩; have hb := Drawn0.below hd; clear hd hk1_0 hk1_1; have nHB_ := Aside0.mk (below_step HB.out hb); have nBK1_ := Aside0.mk (blk_below BK1.out hb); clear HB BK1; have HB := nHB_; have BK1 := nBK1_; clear nHB_ nBK1_; clear hb; have hk1_0 : w2.cell? ⟨g1, 0, none⟩ = some (.int .i64 a0_0) := (blk_cell BK1.out 0).trans rfl; have hk1_1 : w2.cell? ⟨g1, 1, none⟩ = some (.slice A0_1 l0_1.length c0_1) := (blk_cell BK1.out 1).trans rfl))
    go_ret
    exact ⟨rfl, HB.out⟩
  rw [if_pos c1] at h
  rw [decide_eq_true c1] at HIN
  have LN48 := Aside0.mk c1.2
  clear c1
  by_cases c2 : pgOk l0_1 a0_0
  rotate_left
  · rw [if_neg c2] at h
    obtain rfl := Option.some.inj h
    have HU := Aside0.mk ((used_f a0_0 l0_1 a0_0).trans (congrArg some (decide_eq_false c2)))
    clear h c2
    go_enter Try.func42, Try.ntmps42
    go_wp2_with (first
      | ((with_reducible refine gate_dst (N := 1) rfl ?_); refine box_event ?hg (N := 1) ?hd (cs := #[.int .i64 a0_0, .slice A0_1 l0_1.length c0_1]) (t := 49) ?hr ?_; (case hd => rfl); (case hg => rfl); (case hr => first | (go_simp; done) | (go_simp; rfl)); intro g1 hg w1 hbox hb; have nHB_ := Aside0.mk (below_step HB.out hb); clear HB; have HB := nHB_; clear nHB_; have BK1 := Aside0.mk hbox; clear hb hg hbox; have hk1_0 : w1.cell? ⟨g1, 0, none⟩ = some (.int .i64 a0_0) := (blk_cell BK1.out 0).trans rfl; have hk1_1 : w1.cell? ⟨g1, 1, none⟩ = some (.slice A0_1 l0_1.length c0_1) := (blk_cell BK1.out 1).trans rfl)
      | ((with_reducible refine gate_dst (N := 13) rfl ?_); refine goesL_ (some 13) rfl rfl Try.func88 (by kernel_rfl) rfl #[.int .i64 (l0_1.length : Int), .int .i64 1, .int .i64 48] rfl (by (try simp only [List.map_toArray, List.map_cons, List.map_nil]); first | done | rfl | (simp only [List.length_drop, List.length_take]; rfl)) ?_; refine (impl_in.calls (l0_1.length : Int) 1 48 true _ HIN.out).mono ?_; rintro e w2 ⟨rfl, hd⟩; refine ⟨_, rfl, ?_⟩; have hb := Drawn0.below hd; clear hd hk1_0 hk1_1; have nHB_ := Aside0.mk (below_step HB.out hb); have nBK1_ := Aside0.mk (blk_below BK1.out hb); clear HB BK1; have HB := nHB_; have BK1 := nBK1_; clear nHB_ nBK1_; clear hb; have hk1_0 : w2.cell? ⟨g1, 0, none⟩ = some (.int .i64 a0_0) := (blk_cell BK1.out 0).trans rfl; have hk1_1 : w2.cell? ⟨g1, 1, none⟩ = some (.slice A0_1 l0_1.length c0_1) := (blk_cell BK1.out 1).trans rfl)
      | ((with_reducible refine gate_dst (N := 19) rfl ?_); (try (refine gate_guard (by rfl) ?_; dsimp only)); refine goesL_ (some 19) rfl rfl Try.func89 (by kernel_rfl) rfl #[.agg #[.int .i64 a0_0, .slice A0_1 l0_1.length c0_1], .int .i64 a0_0] rfl (by (try simp only [List.map_toArray, List.map_cons, List.map_nil]); first | done | rfl | (simp only [List.length_drop, List.length_take]; rfl)) ?_; refine (impl_used.calls a0_0 _ _ l0_1 a0_0 false _ (Kd.C_below HR.out HB.out) HC.out HU.out).mono ?_; rintro e w3 ⟨rfl, hb⟩; refine ⟨_, rfl, ?_⟩; clear hk1_0 hk1_1; have nHB_ := Aside0.mk (below_step HB.out hb); have nBK1_ := Aside0.mk (blk_below BK1.out hb); clear HB BK1; have HB := nHB_; have BK1 := nBK1_; clear nHB_ nBK1_; clear hb; have hk1_0 : w3.cell? ⟨g1, 0, none⟩ = some (.int .i64 a0_0) := (blk_cell BK1.out 0).trans rfl; have hk1_1 : w3.cell? ⟨g1, 1, none⟩ = some (.slice A0_1 l0_1.length c0_1) := (blk_cell BK1.out 1).trans rfl))
    go_ret
    exact ⟨rfl, HB.out⟩
  rw [if_pos c2] at h
  have HU := Aside0.mk ((used_f a0_0 l0_1 a0_0).trans (congrArg some (decide_eq_true c2)))
  have WFR := Aside0.mk (wf_page HMAX.out c2)
  clear c2
  obtain ⟨b, hb0, h⟩ := Option.bind_eq_some_iff.mp h
  have H' := Aside0.mk hb0
  have HREST := Aside0.mk h
  clear h hb0
  go_enter Try.func42, Try.ntmps42
  go_wp2_with (first
    | ((with_reducible refine gate_dst (N := 1) rfl ?_); refine box_event ?hg (N := 1) ?hd (cs := #[.int .i64 a0_0, .slice A0_1 l0_1.length c0_1]) (t := 49) ?hr ?_; (case hd => rfl); (case hg => rfl); (case hr => first | (go_simp; done) | (go_simp; rfl)); intro g1 hg w1 hbox hb; have nHB_ := Aside0.mk (below_step HB.out hb); clear HB; have HB := nHB_; clear nHB_; have BK1 := Aside0.mk hbox; clear hb hg hbox; have hk1_0 : w1.cell? ⟨g1, 0, none⟩ = some (.int .i64 a0_0) := (blk_cell BK1.out 0).trans rfl; have hk1_1 : w1.cell? ⟨g1, 1, none⟩ = some (.slice A0_1 l0_1.length c0_1) := (blk_cell BK1.out 1).trans rfl)
    | ((with_reducible refine gate_dst (N := 13) rfl ?_); refine goesL_ (some 13) rfl rfl Try.func88 (by kernel_rfl) rfl #[.int .i64 (l0_1.length : Int), .int .i64 1, .int .i64 48] rfl (by (try simp only [List.map_toArray, List.map_cons, List.map_nil]); first | done | rfl | (simp only [List.length_drop, List.length_take]; rfl)) ?_; refine (impl_in.calls (l0_1.length : Int) 1 48 true _ HIN.out).mono ?_; rintro e w2 ⟨rfl, hd⟩; refine ⟨_, rfl, ?_⟩; have hb := Drawn0.below hd; clear hd hk1_0 hk1_1; have nHB_ := Aside0.mk (below_step HB.out hb); have nBK1_ := Aside0.mk (blk_below BK1.out hb); clear HB BK1; have HB := nHB_; have BK1 := nBK1_; clear nHB_ nBK1_; clear hb; have hk1_0 : w2.cell? ⟨g1, 0, none⟩ = some (.int .i64 a0_0) := (blk_cell BK1.out 0).trans rfl; have hk1_1 : w2.cell? ⟨g1, 1, none⟩ = some (.slice A0_1 l0_1.length c0_1) := (blk_cell BK1.out 1).trans rfl)
    | ((with_reducible refine gate_dst (N := 19) rfl ?_); (try (refine gate_guard (by rfl) ?_; dsimp only)); refine goesL_ (some 19) rfl rfl Try.func89 (by kernel_rfl) rfl #[.agg #[.int .i64 a0_0, .slice A0_1 l0_1.length c0_1], .int .i64 a0_0] rfl (by (try simp only [List.map_toArray, List.map_cons, List.map_nil]); first | done | rfl | (simp only [List.length_drop, List.length_take]; rfl)) ?_; refine (impl_used.calls a0_0 _ _ l0_1 a0_0 true _ (Kd.C_below HR.out HB.out) HC.out HU.out).mono ?_; rintro e w3 ⟨rfl, hb⟩; refine ⟨_, rfl, ?_⟩; clear hk1_0 hk1_1; have nHB_ := Aside0.mk (below_step HB.out hb); have nBK1_ := Aside0.mk (blk_below BK1.out hb); clear HB BK1; have HB := nHB_; have BK1 := nBK1_; clear nHB_ nBK1_; clear hb; have hk1_0 : w3.cell? ⟨g1, 0, none⟩ = some (.int .i64 a0_0) := (blk_cell BK1.out 0).trans rfl; have hk1_1 : w3.cell? ⟨g1, 1, none⟩ = some (.slice A0_1 l0_1.length c0_1) := (blk_cell BK1.out 1).trans rfl))
  go_loopg [25] k (fun kq v25 w' => ∃ (x : Int), v25 = .int .i64 x ∧ Aside0 (bokP kq l0_1 x = some b) ∧ Aside0 (kq ≤ k) ∧ Aside0 (w'.heap[g1]? = some (.cells #[.int .i64 a0_0, .slice A0_1 l0_1.length c0_1] 49 (0, 0))) ∧ Aside0 (Below w.heap.size w w'))
  case atStart => exact ⟨0, rfl, H', ⟨Nat.le_refl _⟩, BK1, HB⟩
  case round =>
    clear H' BK1 HB hk1_0 hk1_1
    obtain ⟨x, rfl, HA, HK1, BK1, HB⟩ := hrel
    have hk1_0 : wr.cell? ⟨g1, 0, none⟩ = some (.int .i64 a0_0) := (blk_cell BK1.out 0).trans rfl
    have hk1_1 : wr.cell? ⟨g1, 1, none⟩ = some (.slice A0_1 l0_1.length c0_1) := (blk_cell BK1.out 1).trans rfl
    cases gk with
    | zero => exact absurd HA.out (by simp [bokP])
    | succ k1 =>
      have H := HA.out
      clear HA
      rw [bokP] at H
      by_cases c1 : x < (l0_1.length : Int)
      · rw [if_pos c1] at H
        have c1b : decide (x < (l0_1.length : Int)) = true := decide_eq_true c1
        by_cases c2 : 0 ≤ x
        rotate_left
        · rw [if_neg c2] at H
          exact absurd H (by simp)
        rw [if_pos c2] at H
        obtain ⟨ad, A2, c2_, e2, hz0, hz1, hz2, hl2, hC2⟩ := at_T90 HR.out x c2 c1
        subst e2
        replace hz0 := (HB.out.cell (World.block_lt_of_cell? w _ hz0)).trans hz0
        replace hz1 := (HB.out.cell (World.block_lt_of_cell? w _ hz1)).trans hz1
        replace hz2 := (HB.out.cell (World.block_lt_of_cell? w _ hz2)).trans hz2
        have HC2 := Aside0.mk hC2
        have HL2 := Aside0.mk hl2
        clear hC2 hl2
        generalize rd_T90 l0_1 x = pg at H hz0 hz1 hz2 HC2 HL2
        obtain ⟨u, lf, es⟩ := pg
        dsimp only at H hz0 hz1 hz2 HC2 HL2
        cases u with
        | true =>
          rw [if_pos rfl] at H
          obtain ⟨t, hq, H⟩ := Option.bind_eq_some_iff.mp H
          have HQ := Aside0.mk hq
          clear hq
          cases t with
          | true =>
            rw [if_pos rfl] at H
            have H' := Aside0.mk H
            clear H
            go_wp2_with (first
              | ((with_reducible refine gate_dst (N := 4) rfl ?_); refine box_event ?hg (N := 4) ?hd (cs := #[.bool false, .bool false, .slice none 0 0]) (t := 90) ?hr ?_; (case hd => rfl); (case hg => rfl); (case hr => first | (go_simp; done) | (go_simp; rfl)); intro g4 hg w4 hbox hb; have hs4_0 : w4.cell? ⟨g4, 0, none⟩ = some (.bool false) := (blk_cell hbox 0).trans rfl; have hf4_0 := blk_frozen hbox 0; have hs4_1 : w4.cell? ⟨g4, 1, none⟩ = some (.bool false) := (blk_cell hbox 1).trans rfl; have hf4_1 := blk_frozen hbox 1; have hs4_2 : w4.cell? ⟨g4, 2, none⟩ = some (.slice none 0 0) := (blk_cell hbox 2).trans rfl; have hf4_2 := blk_frozen hbox 2; have HG4 := Aside0.mk hg; have HX4 := Aside0.mk hbox; have HW4 := Aside0.mk hb; clear hg hbox hb)
              | ((with_reducible refine gate_store (t := 90) (p := 4) rfl ?_); refine store_event (t := 90) (p := 4) (v := ?vo4truetrue) (w1 := (((w4.setCell ⟨g4, 0, none⟩ (.bool true)).setCell ⟨g4, 1, none⟩ (.bool lf)).setCell ⟨g4, 2, none⟩ (.slice A2 es.length c2_))) ?hg ?ho ?hn ?hr ?_; (case ho => rfl); (case hg => rfl); (case hn => rfl); (case hr => first | (go_simp; done) | (go_simp; rfl)); intro w5 hw; have hb : Below wr.heap.size wr w5 := (by rw [hw]; exact (below_set (below_set (below_set HW4.out (Nat.le_of_eq HG4.out.symm)) (Nat.le_of_eq HG4.out.symm)) (Nat.le_of_eq HG4.out.symm))); have hbox : w5.heap[g4]? = some (.cells #[.bool true, .bool lf, .slice A2 es.length c2_] 90 (0, 0)) := (by rw [hw]; exact (blk_put (cs' := #[.bool true, .bool lf, .slice A2 es.length c2_]) (blk_put (cs' := #[.bool true, .bool lf, .slice none 0 0]) (blk_put (cs' := #[.bool true, .bool false, .slice none 0 0]) HX4.out 0 (.bool true) rfl) 1 (.bool lf) rfl) 2 (.slice A2 es.length c2_) rfl)); clear hw HG4 HX4 HW4 hs4_0 hf4_0 hs4_1 hf4_1 hs4_2 hf4_2; clear hk1_0 hk1_1 hz0 hz1 hz2; have nHB_ := Aside0.mk (below_step HB.out hb); have nBK1_ := Aside0.mk (blk_below BK1.out hb); clear HB BK1; have HB := nHB_; have BK1 := nBK1_; clear nHB_ nBK1_; have BK4 := Aside0.mk hbox; clear hb hbox; have hk1_0 : w5.cell? ⟨g1, 0, none⟩ = some (.int .i64 a0_0) := (blk_cell BK1.out 0).trans rfl; have hk1_1 : w5.cell? ⟨g1, 1, none⟩ = some (.slice (some ad) l0_1.length c0_1) := (blk_cell BK1.out 1).trans rfl; have hk4_0 : w5.cell? ⟨g4, 0, none⟩ = some (.bool true) := (blk_cell BK4.out 0).trans rfl; have hk4_1 : w5.cell? ⟨g4, 1, none⟩ = some (.bool lf) := (blk_cell BK4.out 1).trans rfl; have hk4_2 : w5.cell? ⟨g4, 2, none⟩ = some (.slice A2 es.length c2_) := (blk_cell BK4.out 2).trans rfl)
              | ((with_reducible refine gate_dst (N := 34) rfl ?_); (try (refine gate_guard (by rfl) ?_; dsimp only)); refine goesL_ (some 34) rfl rfl Try.func90 (by kernel_rfl) rfl #[.agg #[.bool lf, .slice A2 es.length c2_]] rfl (by (try simp only [List.map_toArray, List.map_cons, List.map_nil]); first | done | rfl | (simp only [List.length_drop, List.length_take]; rfl)) ?_; refine (impl_NodeOk.calls k1 lf _ _ es true _ (Kd.C_below HC2.out HB.out) HL2.out HQ.out).mono ?_; rintro e w6 ⟨rfl, hb⟩; refine ⟨_, rfl, ?_⟩; clear hk1_0 hk1_1 hk4_0 hk4_1 hk4_2; have nHB_ := Aside0.mk (below_step HB.out hb); have nBK1_ := Aside0.mk (blk_below BK1.out hb); have nBK4_ := Aside0.mk (blk_below BK4.out hb); clear HB BK1 BK4; have HB := nHB_; have BK1 := nBK1_; have BK4 := nBK4_; clear nHB_ nBK1_ nBK4_; clear hb; have hk1_0 : w6.cell? ⟨g1, 0, none⟩ = some (.int .i64 a0_0) := (blk_cell BK1.out 0).trans rfl; have hk1_1 : w6.cell? ⟨g1, 1, none⟩ = some (.slice (some ad) l0_1.length c0_1) := (blk_cell BK1.out 1).trans rfl; have hk4_0 : w6.cell? ⟨g4, 0, none⟩ = some (.bool true) := (blk_cell BK4.out 0).trans rfl; have hk4_1 : w6.cell? ⟨g4, 1, none⟩ = some (.bool lf) := (blk_cell BK4.out 1).trans rfl; have hk4_2 : w6.cell? ⟨g4, 2, none⟩ = some (.slice A2 es.length c2_) := (blk_cell BK4.out 2).trans rfl))
            go_roundg k1
            case measure => have := HK1.out; omega
            case rel => exact ⟨_, rfl, H', ⟨by have := HK1.out; omega⟩, BK1, HB⟩
          | false =>
            rw [if_neg (by decide)] at H
            obtain rfl := Option.some.inj H
            have HREST2 := HREST.out
            rw [if_neg (by decide)] at HREST2
            obtain rfl := Option.some.inj HREST2
            clear HREST2 H
            go_wp2_with (first
              | ((with_reducible refine gate_dst (N := 4) rfl ?_); refine box_event ?hg (N := 4) ?hd (cs := #[.bool false, .bool false, .slice none 0 0]) (t := 90) ?hr ?_; (case hd => rfl); (case hg => rfl); (case hr => first | (go_simp; done) | (go_simp; rfl)); intro g4 hg w4 hbox hb; have hs4_0 : w4.cell? ⟨g4, 0, none⟩ = some (.bool false) := (blk_cell hbox 0).trans rfl; have hf4_0 := blk_frozen hbox 0; have hs4_1 : w4.cell? ⟨g4, 1, none⟩ = some (.bool false) := (blk_cell hbox 1).trans rfl; have hf4_1 := blk_frozen hbox 1; have hs4_2 : w4.cell? ⟨g4, 2, none⟩ = some (.slice none 0 0) := (blk_cell hbox 2).trans rfl; have hf4_2 := blk_frozen hbox 2; have HG4 := Aside0.mk hg; have HX4 := Aside0.mk hbox; have HW4 := Aside0.mk hb; clear hg hbox hb)
              | ((with_reducible refine gate_store (t := 90) (p := 4) rfl ?_); refine store_event (t := 90) (p := 4) (v := ?vo4truefalse) (w1 := (((w4.setCell ⟨g4, 0, none⟩ (.bool true)).setCell ⟨g4, 1, none⟩ (.bool lf)).setCell ⟨g4, 2, none⟩ (.slice A2 es.length c2_))) ?hg ?ho ?hn ?hr ?_; (case ho => rfl); (case hg => rfl); (case hn => rfl); (case hr => first | (go_simp; done) | (go_simp; rfl)); intro w5 hw; have hb : Below wr.heap.size wr w5 := (by rw [hw]; exact (below_set (below_set (below_set HW4.out (Nat.le_of_eq HG4.out.symm)) (Nat.le_of_eq HG4.out.symm)) (Nat.le_of_eq HG4.out.symm))); have hbox : w5.heap[g4]? = some (.cells #[.bool true, .bool lf, .slice A2 es.length c2_] 90 (0, 0)) := (by rw [hw]; exact (blk_put (cs' := #[.bool true, .bool lf, .slice A2 es.length c2_]) (blk_put (cs' := #[.bool true, .bool lf, .slice none 0 0]) (blk_put (cs' := #[.bool true, .bool false, .slice none 0 0]) HX4.out 0 (.bool true) rfl) 1 (.bool lf) rfl) 2 (.slice A2 es.length c2_) rfl)); clear hw HG4 HX4 HW4 hs4_0 hf4_0 hs4_1 hf4_1 hs4_2 hf4_2; clear hk1_0 hk1_1 hz0 hz1 hz2; have nHB_ := Aside0.mk (below_step HB.out hb); have nBK1_ := Aside0.mk (blk_below BK1.out hb); clear HB BK1; have HB := nHB_; have BK1 := nBK1_; clear nHB_ nBK1_; have BK4 := Aside0.mk hbox; clear hb hbox; have hk1_0 : w5.cell? ⟨g1, 0, none⟩ = some (.int .i64 a0_0) := (blk_cell BK1.out 0).trans rfl; have hk1_1 : w5.cell? ⟨g1, 1, none⟩ = some (.slice (some ad) l0_1.length c0_1) := (blk_cell BK1.out 1).trans rfl; have hk4_0 : w5.cell? ⟨g4, 0, none⟩ = some (.bool true) := (blk_cell BK4.out 0).trans rfl; have hk4_1 : w5.cell? ⟨g4, 1, none⟩ = some (.bool lf) := (blk_cell BK4.out 1).trans rfl; have hk4_2 : w5.cell? ⟨g4, 2, none⟩ = some (.slice A2 es.length c2_) := (blk_cell BK4.out 2).trans rfl)
              | ((with_reducible refine gate_dst (N := 34) rfl ?_); (try (refine gate_guard (by rfl) ?_; dsimp only)); refine goesL_ (some 34) rfl rfl Try.func90 (by kernel_rfl) rfl #[.agg #[.bool lf, .slice A2 es.length c2_]] rfl (by (try simp only [List.map_toArray, List.map_cons, List.map_nil]); first | done | rfl | (simp only [List.length_drop, List.length_take]; rfl)) ?_; refine (impl_NodeOk.calls k1 lf _ _ es false _ (Kd.C_below HC2.out HB.out) HL2.out HQ.out).mono ?_; rintro e w6 ⟨rfl, hb⟩; refine ⟨_, rfl, ?_⟩; clear hk1_0 hk1_1 hk4_0 hk4_1 hk4_2; have nHB_ := Aside0.mk (below_step HB.out hb); have nBK1_ := Aside0.mk (blk_below BK1.out hb); have nBK4_ := Aside0.mk (blk_below BK4.out hb); clear HB BK1 BK4; have HB := nHB_; have BK1 := nBK1_; have BK4 := nBK4_; clear nHB_ nBK1_ nBK4_; clear hb; have hk1_0 : w6.cell? ⟨g1, 0, none⟩ = some (.int .i64 a0_0) := (blk_cell BK1.out 0).trans rfl; have hk1_1 : w6.cell? ⟨g1, 1, none⟩ = some (.slice (some ad) l0_1.length c0_1) := (blk_cell BK1.out 1).trans rfl; have hk4_0 : w6.cell? ⟨g4, 0, none⟩ = some (.bool true) := (blk_cell BK4.out 0).trans rfl; have hk4_1 : w6.cell? ⟨g4, 1, none⟩ = some (.bool lf) := (blk_cell BK4.out 1).trans rfl; have hk4_2 : w6.cell? ⟨g4, 2, none⟩ = some (.slice A2 es.length c2_) := (blk_cell BK4.out 2).trans rfl))
            go_ret
            exact ⟨rfl, HB.out⟩
        | false =>
          rw [if_neg (by decide)] at H
          obtain ⟨t, hq, H⟩ := Option.bind_eq_some_iff.mp H
          have HQ := Aside0.mk hq
          clear hq
          cases t with
          | true =>
            rw [if_pos rfl] at H
            have H' := Aside0.mk H
            clear H
            go_wp2_with (first
              | ((with_reducible refine gate_dst (N := 4) rfl ?_); refine box_event ?hg (N := 4) ?hd (cs := #[.bool false, .bool false, .slice none 0 0]) (t := 90) ?hr ?_; (case hd => rfl); (case hg => rfl); (case hr => first | (go_simp; done) | (go_simp; rfl)); intro g4 hg w4 hbox hb; have hs4_0 : w4.cell? ⟨g4, 0, none⟩ = some (.bool false) := (blk_cell hbox 0).trans rfl; have hf4_0 := blk_frozen hbox 0; have hs4_1 : w4.cell? ⟨g4, 1, none⟩ = some (.bool false) := (blk_cell hbox 1).trans rfl; have hf4_1 := blk_frozen hbox 1; have hs4_2 : w4.cell? ⟨g4, 2, none⟩ = some (.slice none 0 0) := (blk_cell hbox 2).trans rfl; have hf4_2 := blk_frozen hbox 2; have HG4 := Aside0.mk hg; have HX4 := Aside0.mk hbox; have HW4 := Aside0.mk hb; clear hg hbox hb)
              | ((with_reducible refine gate_store (t := 90) (p := 4) rfl ?_); refine store_event (t := 90) (p := 4) (v := ?vo4falsetrue) (w1 := (((w4.setCell ⟨g4, 0, none⟩ (.bool false)).setCell ⟨g4, 1, none⟩ (.bool lf)).setCell ⟨g4, 2, none⟩ (.slice A2 es.length c2_))) ?hg ?ho ?hn ?hr ?_; (case ho => rfl); (case hg => rfl); (case hn => rfl); (case hr => first | (go_simp; done) | (go_simp; rfl)); intro w5 hw; have hb : Below wr.heap.size wr w5 := (by rw [hw]; exact (below_set (below_set (below_set HW4.out (Nat.le_of_eq HG4.out.symm)) (Nat.le_of_eq HG4.out.symm)) (Nat.le_of_eq HG4.out.symm))); have hbox : w5.heap[g4]? = some (.cells #[.bool false, .bool lf, .slice A2 es.length c2_] 90 (0, 0)) := (by rw [hw]; exact (blk_put (cs' := #[.bool false, .bool lf, .slice A2 es.length c2_]) (blk_put (cs' := #[.bool false, .bool lf, .slice none 0 0]) (blk_put (cs' := #[.bool false, .bool false, .slice none 0 0]) HX4.out 0 (.bool false) rfl) 1 (.bool lf) rfl) 2 (.slice A2 es.length c2_) rfl)); clear hw HG4 HX4 HW4 hs4_0 hf4_0 hs4_1 hf4_1 hs4_2 hf4_2; clear hk1_0 hk1_1 hz0 hz1 hz2; have nHB_ := Aside0.mk (below_step HB.out hb); have nBK1_ := Aside0.mk (blk_below BK1.out hb); clear HB BK1; have HB := nHB_; have BK1 := nBK1_; clear nHB_ nBK1_; have BK4 := Aside0.mk hbox; clear hb hbox; have hk1_0 : w5.cell? ⟨g1, 0, none⟩ = some (.int .i64 a0_0) := (blk_cell BK1.out 0).trans rfl; have hk1_1 : w5.cell? ⟨g1, 1, none⟩ = some (.slice (some ad) l0_1.length c0_1) := (blk_cell BK1.out 1).trans rfl; have hk4_0 : w5.cell? ⟨g4, 0, none⟩ = some (.bool false) := (blk_cell BK4.out 0).trans rfl; have hk4_1 : w5.cell? ⟨g4, 1, none⟩ = some (.bool lf) := (blk_cell BK4.out 1).trans rfl; have hk4_2 : w5.cell? ⟨g4, 2, none⟩ = some (.slice A2 es.length c2_) := (blk_cell BK4.out 2).trans rfl)
              | ((with_reducible refine gate_dst (N := 45) rfl ?_); (try (refine gate_guard (by rfl) ?_; dsimp only)); refine goesL_ (some 45) rfl rfl Try.func91 (by kernel_rfl) rfl #[.agg #[.bool lf, .slice A2 es.length c2_], .agg #[.bool false, .slice none 0 0]] rfl (by (try simp only [List.map_toArray, List.map_cons, List.map_nil]); first | done | rfl | (simp only [List.length_drop, List.length_take]; rfl)) ?_; refine (impl_SameNode.calls k1 lf _ _ es false _ _ [] true _ (Kd.C_below HC2.out HB.out) HL2.out (Kd.C_nil _ _) (Nat.le_refl _) HQ.out).mono ?_; rintro e w6 ⟨rfl, hb⟩; refine ⟨_, rfl, ?_⟩; clear hk1_0 hk1_1 hk4_0 hk4_1 hk4_2; have nHB_ := Aside0.mk (below_step HB.out hb); have nBK1_ := Aside0.mk (blk_below BK1.out hb); have nBK4_ := Aside0.mk (blk_below BK4.out hb); clear HB BK1 BK4; have HB := nHB_; have BK1 := nBK1_; have BK4 := nBK4_; clear nHB_ nBK1_ nBK4_; clear hb; have hk1_0 : w6.cell? ⟨g1, 0, none⟩ = some (.int .i64 a0_0) := (blk_cell BK1.out 0).trans rfl; have hk1_1 : w6.cell? ⟨g1, 1, none⟩ = some (.slice (some ad) l0_1.length c0_1) := (blk_cell BK1.out 1).trans rfl; have hk4_0 : w6.cell? ⟨g4, 0, none⟩ = some (.bool false) := (blk_cell BK4.out 0).trans rfl; have hk4_1 : w6.cell? ⟨g4, 1, none⟩ = some (.bool lf) := (blk_cell BK4.out 1).trans rfl; have hk4_2 : w6.cell? ⟨g4, 2, none⟩ = some (.slice A2 es.length c2_) := (blk_cell BK4.out 2).trans rfl))
            go_roundg k1
            case measure => have := HK1.out; omega
            case rel => exact ⟨_, rfl, H', ⟨by have := HK1.out; omega⟩, BK1, HB⟩
          | false =>
            rw [if_neg (by decide)] at H
            obtain rfl := Option.some.inj H
            have HREST2 := HREST.out
            rw [if_neg (by decide)] at HREST2
            obtain rfl := Option.some.inj HREST2
            clear HREST2 H
            go_wp2_with (first
              | ((with_reducible refine gate_dst (N := 4) rfl ?_); refine box_event ?hg (N := 4) ?hd (cs := #[.bool false, .bool false, .slice none 0 0]) (t := 90) ?hr ?_; (case hd => rfl); (case hg => rfl); (case hr => first | (go_simp; done) | (go_simp; rfl)); intro g4 hg w4 hbox hb; have hs4_0 : w4.cell? ⟨g4, 0, none⟩ = some (.bool false) := (blk_cell hbox 0).trans rfl; have hf4_0 := blk_frozen hbox 0; have hs4_1 : w4.cell? ⟨g4, 1, none⟩ = some (.bool false) := (blk_cell hbox 1).trans rfl; have hf4_1 := blk_frozen hbox 1; have hs4_2 : w4.cell? ⟨g4, 2, none⟩ = some (.slice none 0 0) := (blk_cell hbox 2).trans rfl; have hf4_2 := blk_frozen hbox 2; have HG4 := Aside0.mk hg; have HX4 := Aside0.mk hbox; have HW4 := Aside0.mk hb; clear hg hbox hb)
              | ((with_reducible refine gate_store (t := 90) (p := 4) rfl ?_); refine store_event (t := 90) (p := 4) (v := ?vo4falsefalse) (w1 := (((w4.setCell ⟨g4, 0, none⟩ (.bool false)).setCell ⟨g4, 1, none⟩ (.bool lf)).setCell ⟨g4, 2, none⟩ (.slice A2 es.length c2_))) ?hg ?ho ?hn ?hr ?_; (case ho => rfl); (case hg => rfl); (case hn => rfl); (case hr => first | (go_simp; done) | (go_simp; rfl)); intro w5 hw; have hb : Below wr.heap.size wr w5 := (by rw [hw]; exact (below_set (below_set (below_set HW4.out (Nat.le_of_eq HG4.out.symm)) (Nat.le_of_eq HG4.out.symm)) (Nat.le_of_eq HG4.out.symm))); have hbox : w5.heap[g4]? = some (.cells #[.bool false, .bool lf, .slice A2 es.length c2_] 90 (0, 0)) := (by rw [hw]; exact (blk_put (cs' := #[.bool false, .bool lf, .slice A2 es.length c2_]) (blk_put (cs' := #[.bool false, .bool lf, .slice none 0 0]) (blk_put (cs' := #[.bool false, .bool false, .slice none 0 0]) HX4.out 0 (.bool false) rfl) 1 (.bool lf) rfl) 2 (.slice A2 es.length c2_) rfl)); clear hw HG4 HX4 HW4 hs4_0 hf4_0 hs4_1 hf4_1 hs4_2 hf4_2; clear hk1_0 hk1_1 hz0 hz1 hz2; have nHB_ := Aside0.mk (below_step HB.out hb); have nBK1_ := Aside0.mk (blk_below BK1.out hb); clear HB BK1; have HB := nHB_; have BK1 := nBK1_; clear nHB_ nBK1_; have BK4 := Aside0.mk hbox; clear hb hbox; have hk1_0 : w5.cell? ⟨g1, 0, none⟩ = some (.int .i64 a0_0) := (blk_cell BK1.out 0).trans rfl; have hk1_1 : w5.cell? ⟨g1, 1, none⟩ = some (.slice (some ad) l0_1.length c0_1) := (blk_cell BK1.out 1).trans rfl; have hk4_0 : w5.cell? ⟨g4, 0, none⟩ = some (.bool false) := (blk_cell BK4.out 0).trans rfl; have hk4_1 : w5.cell? ⟨g4, 1, none⟩ = some (.bool lf) := (blk_cell BK4.out 1).trans rfl; have hk4_2 : w5.cell? ⟨g4, 2, none⟩ = some (.slice A2 es.length c2_) := (blk_cell BK4.out 2).trans rfl)
              | ((with_reducible refine gate_dst (N := 45) rfl ?_); (try (refine gate_guard (by rfl) ?_; dsimp only)); refine goesL_ (some 45) rfl rfl Try.func91 (by kernel_rfl) rfl #[.agg #[.bool lf, .slice A2 es.length c2_], .agg #[.bool false, .slice none 0 0]] rfl (by (try simp only [List.map_toArray, List.map_cons, List.map_nil]); first | done | rfl | (simp only [List.length_drop, List.length_take]; rfl)) ?_; refine (impl_SameNode.calls k1 lf _ _ es false _ _ [] false _ (Kd.C_below HC2.out HB.out) HL2.out (Kd.C_nil _ _) (Nat.le_refl _) HQ.out).mono ?_; rintro e w6 ⟨rfl, hb⟩; refine ⟨_, rfl, ?_⟩; clear hk1_0 hk1_1 hk4_0 hk4_1 hk4_2; have nHB_ := Aside0.mk (below_step HB.out hb); have nBK1_ := Aside0.mk (blk_below BK1.out hb); have nBK4_ := Aside0.mk (blk_below BK4.out hb); clear HB BK1 BK4; have HB := nHB_; have BK1 := nBK1_; have BK4 := nBK4_; clear nHB_ nBK1_ nBK4_; clear hb; have hk1_0 : w6.cell? ⟨g1, 0, none⟩ = some (.int .i64 a0_0) := (blk_cell BK1.out 0).trans rfl; have hk1_1 : w6.cell? ⟨g1, 1, none⟩ = some (.slice (some ad) l0_1.length c0_1) := (blk_cell BK1.out 1).trans rfl; have hk4_0 : w6.cell? ⟨g4, 0, none⟩ = some (.bool false) := (blk_cell BK4.out 0).trans rfl; have hk4_1 : w6.cell? ⟨g4, 1, none⟩ = some (.bool lf) := (blk_cell BK4.out 1).trans rfl; have hk4_2 : w6.cell? ⟨g4, 2, none⟩ = some (.slice A2 es.length c2_) := (blk_cell BK4.out 2).trans rfl))
            go_ret
            exact ⟨rfl, HB.out⟩
      · rw [if_neg c1] at H
        have c1b : decide (x < (l0_1.length : Int)) = false := decide_eq_false c1
        clear c1
        obtain rfl := Option.some.inj H
        have HREST2 := HREST.out
        rw [if_pos rfl] at HREST2
        obtain ⟨rs, hrs, HREST2⟩ := Option.bind_eq_some_iff.mp HREST2
        have HRS := Aside0.mk hrs
        have HT0 := Aside0.mk HREST2
        clear hrs HREST2 H
        go_wp2_with (first
          | ((with_reducible refine gate_dst (N := 50) rfl ?_); refine map_event rfl (N := 50) rfl rfl ?_; intro bm hg w7 hmet hb; have GE := Aside0.mk (by rw [hg]; exact HB.out.size : w.heap.size ≤ bm); clear hk1_0 hk1_1; have nHB_ := Aside0.mk (below_step HB.out hb); have nBK1_ := Aside0.mk (blk_below BK1.out hb); clear HB BK1; have HB := nHB_; have BK1 := nBK1_; clear nHB_ nBK1_; have MET := Aside0.mk hmet; clear hb hg hmet; obtain ⟨nm, Dm, hnm, him, hom, hcm⟩ := MET.out; have HNM := Aside0.mk hnm; have HIM := Aside0.mk him; have HOM := Aside0.mk hom; have HCM := Aside0.mk hcm; clear hnm him hom hcm; have hk1_0 : w7.cell? ⟨g1, 0, none⟩ = some (.int .i64 a0_0) := (blk_cell BK1.out 0).trans rfl; have hk1_1 : w7.cell? ⟨g1, 1, none⟩ = some (.slice A0_1 l0_1.length c0_1) := (blk_cell BK1.out 1).trans rfl)
          | ((with_reducible refine gate_ins rfl ?_); refine wpList_insert_own _ rfl _ _ _ 104 rfl 3 3 (Go.Maps.int_keyed Try.underlying3) Try.underlying104 _ bm nm Dm rfl HOM.out (by have := HNM.out; simp only [List.length_nil] at this; unfold maxLen; omega) _ _ (.int .i64 a0_0) rfl rfl (Go.Maps.keyOf_int_mk Try.underlying3 WFR.out) (.lit (.int .i64 1)) [] (plainElem_int Try.underlying3 (by decide)) ?_; intro w8 hown hg; have hmet2 : MetOk w8 bm ([] ++ [a0_0]) := MetOk.put HNM.out HIM.out hown HCM.out; rw [List.nil_append] at hmet2; have nBK1_ := Aside0.mk (blk_mapped BK1.out MET.out hg); have nHB_ := Aside0.mk (below_mapped HB.out hg GE.out); clear hk1_0 hk1_1 BK1 HB MET hown hg HNM HIM HOM HCM; have BK1 := nBK1_; have HB := nHB_; have MET := Aside0.mk hmet2; clear nBK1_ nHB_ hmet2; have hk1_0 : w8.cell? ⟨g1, 0, none⟩ = some (.int .i64 a0_0) := (blk_cell BK1.out 0).trans rfl; have hk1_1 : w8.cell? ⟨g1, 1, none⟩ = some (.slice A0_1 l0_1.length c0_1) := (blk_cell BK1.out 1).trans rfl)
          | ((with_reducible refine gate_dst (N := 55) rfl ?_); refine goesL_ (some 55) rfl rfl Try.func92 (by kernel_rfl) rfl #[.agg #[.int .i64 a0_0, .slice A0_1 l0_1.length c0_1]] rfl (by (try simp only [List.map_toArray, List.map_cons, List.map_nil]); first | done | rfl | (simp only [List.length_drop, List.length_take]; rfl)) ?_; refine (impl_Reach.calls k a0_0 _ _ l0_1 rs _ (Kd.C_below HR.out HB.out) HC.out HRS.out).mono ?_; rintro e w9 ⟨v55, rfl, ho, hb⟩; refine ⟨_, rfl, ?_⟩; have hle := HB.out.size; clear hk1_0 hk1_1; have nHB_ := Aside0.mk (below_step HB.out hb); have nBK1_ := Aside0.mk (blk_below BK1.out hb); have nMET_ := Aside0.mk (MetOk.below MET.out hb); clear HB BK1 MET; have HB := nHB_; have BK1 := nBK1_; have MET := nMET_; clear nHB_ nBK1_ nMET_; have HO := Aside0.mk (Kd.R_lower ho hle); clear ho hb hle; obtain ⟨Ao, co, eo⟩ := Kd.R_slice HO.out; subst eo; have hk1_0 : w9.cell? ⟨g1, 0, none⟩ = some (.int .i64 a0_0) := (blk_cell BK1.out 0).trans rfl; have hk1_1 : w9.cell? ⟨g1, 1, none⟩ = some (.slice A0_1 l0_1.length c0_1) := (blk_cell BK1.out 1).trans rfl))
        go_loopg [57] k (fun kq v57 w' => ∃ (x : Int) (told : List Int), v57 = .int .i64 x ∧ Aside0 (bokR kq l0_1 rs told x = some r) ∧ Aside0 (kq ≤ k) ∧ Aside0 (w'.heap[g1]? = some (.cells #[.int .i64 a0_0, .slice A0_1 l0_1.length c0_1] 49 (0, 0))) ∧ Aside0 (Below w.heap.size w w') ∧ Aside0 (MetOk w' bm told) ∧ Aside0 (Kd.R (Kd.int .i64) 3 w' w.heap.size (fun _ => True) (.slice Ao rs.length co) rs))
        case atStart => exact ⟨0, [a0_0], rfl, HT0, ⟨Nat.le_refl _⟩, BK1, HB, MET, HO⟩
        case round =>
          clear HT0 BK1 HB MET HO hk1_0 hk1_1 HK1
          obtain ⟨x, told, rfl, HA, HK1, BK1, HB, MET, HO⟩ := hrel
          have hk1_0 : wr.cell? ⟨g1, 0, none⟩ = some (.int .i64 a0_0) := (blk_cell BK1.out 0).trans rfl
          have hk1_1 : wr.cell? ⟨g1, 1, none⟩ = some (.slice A0_1 l0_1.length c0_1) := (blk_cell BK1.out 1).trans rfl
          cases gk with
          | zero => exact absurd HA.out (by simp [bokR])
          | succ k1 =>
            have H := HA.out
            clear HA
            rw [bokR] at H
            by_cases c1 : x < (rs.length : Int)
            rotate_left
            · rw [if_neg c1] at H
              have c1b : decide (x < (rs.length : Int)) = false := decide_eq_false c1
              clear c1
              obtain rfl := Option.some.inj H
              clear H
              go_wp2
              go_ret
              exact ⟨rfl, HB.out⟩
            rw [if_pos c1] at H
            have c1b : decide (x < (rs.length : Int)) = true := decide_eq_true c1
            by_cases c2 : 0 ≤ x
            rotate_left
            · rw [if_neg c2] at H
              exact absurd H (by simp)
            rw [if_pos c2] at H
            by_cases c3 : 0 ≤ rd rs x
            rotate_left
            · rw [if_neg c3] at H
              exact absurd H (by simp)
            rw [if_pos c3] at H
            by_cases c4 : rd rs x < (l0_1.length : Int)
            rotate_left
            · rw [if_neg c4] at H
              exact absurd H (by simp)
            rw [if_pos c4] at H
            obtain ⟨ad0, e0, hy0⟩ := Kd.at_int (Kd.R_reads' HO.out).2.2 x c2 c1
            cases e0
            generalize hi : rd rs x = i at H c3 c4 hy0
            clear hi
            obtain ⟨ad, A2, c2_, e2, hz0, hz1, hz2, hl2, hC2⟩ := at_T90 HR.out i c3 c4
            subst e2
            clear hz0
            replace hz1 := (HB.out.cell (World.block_lt_of_cell? w _ hz1)).trans hz1
            replace hz2 := (HB.out.cell (World.block_lt_of_cell? w _ hz2)).trans hz2
            have HL2 := Aside0.mk hl2
            have HCC := Aside0.mk hC2
            clear hC2 hl2
            generalize rd_T90 l0_1 i = pg at H hz1 hz2 HCC HL2
            obtain ⟨u, lf, es⟩ := pg
            dsimp only at H hz1 hz2 HCC HL2
            have c3b : decide (0 ≤ i) = true := decide_eq_true c3
            have c4b : decide (i < (l0_1.length : Int)) = true := decide_eq_true c4
            cases lf with
            | true =>
              rw [if_pos rfl] at H
              have H' := Aside0.mk H
              clear H
              go_wp2
              go_roundg k1
              case measure => have := HK1.out; omega
              case rel => exact ⟨_, told, rfl, H', ⟨by have := HK1.out; omega⟩, BK1, HB, MET, HO⟩
            | false =>
              rw [if_neg (by decide)] at H
              obtain ⟨oo, hoo, H⟩ := Option.bind_eq_some_iff.mp H
              have HE := Aside0.mk hoo
              have HN := Aside0.mk H
              clear hoo H
              go_wp2
              go_loopg [76] k1 (fun kq v76 w' => ∃ (y : Int) (told2 : List Int), v76 = .int .i64 y ∧ Aside0 (bokE kq l0_1 es told2 y = some oo) ∧ Aside0 (kq ≤ k1) ∧ Aside0 (w'.heap[g1]? = some (.cells #[.int .i64 a0_0, .slice (some ad) l0_1.length c0_1] 49 (0, 0))) ∧ Aside0 (Below w.heap.size w w') ∧ Aside0 (MetOk w' bm told2) ∧ Aside0 (Kd.R (Kd.int .i64) 3 w' w.heap.size (fun _ => True) (.slice (some ad0) rs.length co) rs))
              case atStart => exact ⟨0, told, rfl, HE, ⟨Nat.le_refl _⟩, BK1, HB, MET, HO⟩
              case round =>
                clear HE BK1 HB MET HO hk1_0 hk1_1 hy0 hz1 hz2
                obtain ⟨y, told2, rfl, HA, HK2, BK1, HB, MET, HO⟩ := hrel
                have hk1_0 : wr.cell? ⟨g1, 0, none⟩ = some (.int .i64 a0_0) := (blk_cell BK1.out 0).trans rfl
                have hk1_1 : wr.cell? ⟨g1, 1, none⟩ = some (.slice (some ad) l0_1.length c0_1) := (blk_cell BK1.out 1).trans rfl
                cases gk with
                | zero => exact absurd HA.out (by simp [bokE])
                | succ k2 =>
                  have H := HA.out
                  clear HA
                  rw [bokE] at H
                  by_cases d1 : y < (es.length : Int)
                  rotate_left
                  · rw [if_neg d1] at H
                    have d1b : decide (y < (es.length : Int)) = false := decide_eq_false d1
                    clear d1
                    obtain rfl := Option.some.inj H
                    clear H
                    go_wp2
                    go_roundg k1
                    case measure => have := HK1.out; omega
                    case rel => exact ⟨_, told2, rfl, ⟨HN.out⟩, ⟨by have := HK1.out; omega⟩, BK1, HB, MET, HO⟩
                  rw [if_pos d1] at H
                  have d1b : decide (y < (es.length : Int)) = true := decide_eq_true d1
                  by_cases d2 : 0 ≤ y
                  rotate_left
                  · rw [if_neg d2] at H
                    exact absurd H (by simp)
                  rw [if_pos d2] at H
                  by_cases d3 : told2.length < 17592186044415
                  rotate_left
                  · rw [if_neg d3] at H
                    exact absurd H (by simp)
                  rw [if_pos d3] at H
                  have LEN := Aside0.mk d3
                  clear d3
                  obtain ⟨ad3, e3, hy0, hy1, hy2, hy3, hy4⟩ := at_T103 HCC.out y d2 d1
                  cases e3
                  replace hy0 := (HB.out.cell (World.block_lt_of_cell? w _ hy0)).trans hy0
                  replace hy1 := (HB.out.cell (World.block_lt_of_cell? w _ hy1)).trans hy1
                  replace hy2 := (HB.out.cell (World.block_lt_of_cell? w _ hy2)).trans hy2
                  replace hy3 := (HB.out.cell (World.block_lt_of_cell? w _ hy3)).trans hy3
                  replace hy4 := (HB.out.cell (World.block_lt_of_cell? w _ hy4)).trans hy4
                  generalize rd_T103 es y = en at H hy0 hy1 hy2 hy3 hy4
                  obtain ⟨c, b0, b1, b2, b3⟩ := en
                  dsimp only at H hy0 hy1 hy2 hy3 hy4
                  by_cases d4 : pgOk l0_1 c
                  rotate_left
                  · rw [if_neg d4] at H
                    have HUC := Aside0.mk ((used_f a0_0 l0_1 c).trans (congrArg some (decide_eq_false d4)))
                    clear d4
                    obtain rfl := Option.some.inj H
                    have HN2 := HN.out
                    obtain rfl := Option.some.inj HN2
                    clear H HN2
                    go_wp2_with (first
                      | ((with_reducible refine gate_dst (N := 9) rfl ?_); refine box_event ?hg (N := 9) ?hd (cs := #[.int .i64 0, .int .i64 0, .int .i64 0, .int .i64 0, .int .i64 0]) (t := 103) ?hr ?_; (case hd => rfl); (case hg => rfl); (case hr => first | (go_simp; done) | (go_simp; rfl)); intro g9 hg w7 hbox hb; have HG9 := Aside0.mk hg; have HX9 := Aside0.mk hbox; have HW9 := Aside0.mk hb; clear hg hbox hb)
                      | ((with_reducible refine gate_store (t := 103) (p := 9) rfl ?_); refine store_event (t := 103) (p := 9) (v := ?vo9a) (w1 := (((((w7.setCell ⟨g9, 0, none⟩ (.int .i64 c)).setCell ⟨g9, 1, none⟩ (.int .i64 b0)).setCell ⟨g9, 2, none⟩ (.int .i64 b1)).setCell ⟨g9, 3, none⟩ (.int .i64 b2)).setCell ⟨g9, 4, none⟩ (.int .i64 b3))) ?hg ?ho ?hn ?hr ?_; (case ho => rfl); (case hg => rfl); (case hn => rfl); (case hr => exact store5_run _ _ 9 79 rfl g9 w7 _ _ _ _ _ rfl rfl HX9.out); intro w8 hw; have hb : Below wr.heap.size wr w8 := (by rw [hw]; exact (below_set (below_set (below_set (below_set (below_set HW9.out (Nat.le_of_eq HG9.out.symm)) (Nat.le_of_eq HG9.out.symm)) (Nat.le_of_eq HG9.out.symm)) (Nat.le_of_eq HG9.out.symm)) (Nat.le_of_eq HG9.out.symm))); have hbox : w8.heap[g9]? = some (.cells #[.int .i64 c, .int .i64 b0, .int .i64 b1, .int .i64 b2, .int .i64 b3] 103 (0, 0)) := (by rw [hw]; exact (blk_put (cs' := #[.int .i64 c, .int .i64 b0, .int .i64 b1, .int .i64 b2, .int .i64 b3]) (blk_put (cs' := #[.int .i64 c, .int .i64 b0, .int .i64 b1, .int .i64 b2, .int .i64 0]) (blk_put (cs' := #[.int .i64 c, .int .i64 b0, .int .i64 b1, .int .i64 0, .int .i64 0]) (blk_put (cs' := #[.int .i64 c, .int .i64 b0, .int .i64 0, .int .i64 0, .int .i64 0]) (blk_put (cs' := #[.int .i64 c, .int .i64 0, .int .i64 0, .int .i64 0, .int .i64 0]) HX9.out 0 (.int .i64 c) rfl) 1 (.int .i64 b0) rfl) 2 (.int .i64 b1) rfl) 3 (.int .i64 b2) rfl) 4 (.int .i64 b3) rfl)); clear hw HG9 HX9 HW9; clear hk1_0 hk1_1 hy0 hy1 hy2 hy3 hy4; have nHB_ := Aside0.mk (below_step HB.out hb); have nBK1_ := Aside0.mk (blk_below BK1.out hb); have nMET_ := Aside0.mk (MetOk.below MET.out hb); have nHO_ := Aside0.mk (Kd.R_below HO.out hb); clear HB BK1 MET HO; have HB := nHB_; have BK1 := nBK1_; have MET := nMET_; have HO := nHO_; clear nHB_ nBK1_ nMET_ nHO_; have BK9 := Aside0.mk hbox; clear hb hbox; have hk1_0 : w8.cell? ⟨g1, 0, none⟩ = some (.int .i64 a0_0) := (blk_cell BK1.out 0).trans rfl; have hk1_1 : w8.cell? ⟨g1, 1, none⟩ = some (.slice (some ad) l0_1.length c0_1) := (blk_cell BK1.out 1).trans rfl; have hk9_0 : w8.cell? ⟨g9, 0, none⟩ = some (.int .i64 c) := (blk_cell BK9.out 0).trans rfl)
                      | ((with_reducible refine gate_dst (N := 83) rfl ?_); refine goesL_ (some 83) rfl rfl Try.func89 (by kernel_rfl) rfl #[.agg #[.int .i64 a0_0, .slice (some ad) l0_1.length c0_1], .int .i64 c] rfl (by (try simp only [List.map_toArray, List.map_cons, List.map_nil]); first | done | rfl | (simp only [List.length_drop, List.length_take]; rfl)) ?_; refine (impl_used.calls a0_0 _ _ l0_1 c false _ (Kd.C_below HR.out HB.out) HC.out HUC.out).mono ?_; rintro e w9 ⟨rfl, hb⟩; refine ⟨_, rfl, ?_⟩; clear hk1_0 hk1_1 hk9_0; have nHB_ := Aside0.mk (below_step HB.out hb); have nBK1_ := Aside0.mk (blk_below BK1.out hb); have nMET_ := Aside0.mk (MetOk.below MET.out hb); have nHO_ := Aside0.mk (Kd.R_below HO.out hb); have nBK9_ := Aside0.mk (blk_below BK9.out hb); clear HB BK1 MET HO BK9; have HB := nHB_; have BK1 := nBK1_; have MET := nMET_; have HO := nHO_; have BK9 := nBK9_; clear nHB_ nBK1_ nMET_ nHO_ nBK9_; clear hb; have hk1_0 : w9.cell? ⟨g1, 0, none⟩ = some (.int .i64 a0_0) := (blk_cell BK1.out 0).trans rfl; have hk1_1 : w9.cell? ⟨g1, 1, none⟩ = some (.slice (some ad) l0_1.length c0_1) := (blk_cell BK1.out 1).trans rfl; have hk9_0 : w9.cell? ⟨g9, 0, none⟩ = some (.int .i64 c) := (blk_cell BK9.out 0).trans rfl))
                    go_ret
                    exact ⟨rfl, HB.out⟩
                  rw [if_pos d4] at H
                  have HUC := Aside0.mk ((used_f a0_0 l0_1 c).trans (congrArg some (decide_eq_true d4)))
                  have WFC := Aside0.mk (wf_page HMAX.out d4)
                  clear d4
                  by_cases d5 : c ∈ told2
                  · rw [if_pos d5] at H
                    have HIC := Aside0.mk d5
                    clear d5
                    obtain rfl := Option.some.inj H
                    have HN2 := HN.out
                    obtain rfl := Option.some.inj HN2
                    clear H HN2
                    go_wp2_with (first
                      | ((with_reducible refine gate_dst (N := 9) rfl ?_); refine box_event ?hg (N := 9) ?hd (cs := #[.int .i64 0, .int .i64 0, .int .i64 0, .int .i64 0, .int .i64 0]) (t := 103) ?hr ?_; (case hd => rfl); (case hg => rfl); (case hr => first | (go_simp; done) | (go_simp; rfl)); intro g9 hg w7 hbox hb; have HG9 := Aside0.mk hg; have HX9 := Aside0.mk hbox; have HW9 := Aside0.mk hb; clear hg hbox hb)
                      | ((with_reducible refine gate_store (t := 103) (p := 9) rfl ?_); refine store_event (t := 103) (p := 9) (v := ?vo9b) (w1 := (((((w7.setCell ⟨g9, 0, none⟩ (.int .i64 c)).setCell ⟨g9, 1, none⟩ (.int .i64 b0)).setCell ⟨g9, 2, none⟩ (.int .i64 b1)).setCell ⟨g9, 3, none⟩ (.int .i64 b2)).setCell ⟨g9, 4, none⟩ (.int .i64 b3))) ?hg ?ho ?hn ?hr ?_; (case ho => rfl); (case hg => rfl); (case hn => rfl); (case hr => exact store5_run _ _ 9 79 rfl g9 w7 _ _ _ _ _ rfl rfl HX9.out); intro w8 hw; have hb : Below wr.heap.size wr w8 := (by rw [hw]; exact (below_set (below_set (below_set (below_set (below_set HW9.out (Nat.le_of_eq HG9.out.symm)) (Nat.le_of_eq HG9.out.symm)) (Nat.le_of_eq HG9.out.symm)) (Nat.le_of_eq HG9.out.symm)) (Nat.le_of_eq HG9.out.symm))); have hbox : w8.heap[g9]? = some (.cells #[.int .i64 c, .int .i64 b0, .int .i64 b1, .int .i64 b2, .int .i64 b3] 103 (0, 0)) := (by rw [hw]; exact (blk_put (cs' := #[.int .i64 c, .int .i64 b0, .int .i64 b1, .int .i64 b2, .int .i64 b3]) (blk_put (cs' := #[.int .i64 c, .int .i64 b0, .int .i64 b1, .int .i64 b2, .int .i64 0]) (blk_put (cs' := #[.int .i64 c, .int .i64 b0, .int .i64 b1, .int .i64 0, .int .i64 0]) (blk_put (cs' := #[.int .i64 c, .int .i64 b0, .int .i64 0, .int .i64 0, .int .i64 0]) (blk_put (cs' := #[.int .i64 c, .int .i64 0, .int .i64 0, .int .i64 0, .int .i64 0]) HX9.out 0 (.int .i64 c) rfl) 1 (.int .i64 b0) rfl) 2 (.int .i64 b1) rfl) 3 (.int .i64 b2) rfl) 4 (.int .i64 b3) rfl)); clear hw HG9 HX9 HW9; clear hk1_0 hk1_1 hy0 hy1 hy2 hy3 hy4; have nHB_ := Aside0.mk (below_step HB.out hb); have nBK1_ := Aside0.mk (blk_below BK1.out hb); have nMET_ := Aside0.mk (MetOk.below MET.out hb); have nHO_ := Aside0.mk (Kd.R_below HO.out hb); clear HB BK1 MET HO; have HB := nHB_; have BK1 := nBK1_; have MET := nMET_; have HO := nHO_; clear nHB_ nBK1_ nMET_ nHO_; have BK9 := Aside0.mk hbox; clear hb hbox; have hk1_0 : w8.cell? ⟨g1, 0, none⟩ = some (.int .i64 a0_0) := (blk_cell BK1.out 0).trans rfl; have hk1_1 : w8.cell? ⟨g1, 1, none⟩ = some (.slice (some ad) l0_1.length c0_1) := (blk_cell BK1.out 1).trans rfl; have hk9_0 : w8.cell? ⟨g9, 0, none⟩ = some (.int .i64 c) := (blk_cell BK9.out 0).trans rfl)
                      | ((with_reducible refine gate_dst (N := 83) rfl ?_); refine goesL_ (some 83) rfl rfl Try.func89 (by kernel_rfl) rfl #[.agg #[.int .i64 a0_0, .slice (some ad) l0_1.length c0_1], .int .i64 c] rfl (by (try simp only [List.map_toArray, List.map_cons, List.map_nil]); first | done | rfl | (simp only [List.length_drop, List.length_take]; rfl)) ?_; refine (impl_used.calls a0_0 _ _ l0_1 c true _ (Kd.C_below HR.out HB.out) HC.out HUC.out).mono ?_; rintro e w9 ⟨rfl, hb⟩; refine ⟨_, rfl, ?_⟩; clear hk1_0 hk1_1 hk9_0; have nHB_ := Aside0.mk (below_step HB.out hb); have nBK1_ := Aside0.mk (blk_below BK1.out hb); have nMET_ := Aside0.mk (MetOk.below MET.out hb); have nHO_ := Aside0.mk (Kd.R_below HO.out hb); have nBK9_ := Aside0.mk (blk_below BK9.out hb); clear HB BK1 MET HO BK9; have HB := nHB_; have BK1 := nBK1_; have MET := nMET_; have HO := nHO_; have BK9 := nBK9_; clear nHB_ nBK1_ nMET_ nHO_ nBK9_; clear hb; obtain ⟨nm, Dm, hnm, him, hom, hcm⟩ := MET.out; have HNM := Aside0.mk hnm; have HIM := Aside0.mk him; have HOM := Aside0.mk hom; have HCM := Aside0.mk hcm; clear hnm him hom hcm; have hk1_0 : w9.cell? ⟨g1, 0, none⟩ = some (.int .i64 a0_0) := (blk_cell BK1.out 0).trans rfl; have hk1_1 : w9.cell? ⟨g1, 1, none⟩ = some (.slice (some ad) l0_1.length c0_1) := (blk_cell BK1.out 1).trans rfl; have hk9_0 : w9.cell? ⟨g9, 0, none⟩ = some (.int .i64 c) := (blk_cell BK9.out 0).trans rfl)
                      | ((try (refine gate_guard (by rfl) ?_; dsimp only)); at_lookup; refine wpList_lookup_own_int _ rfl _ _ 104 rfl 3 3 .i64 (Go.Maps.int_keyed Try.underlying3) Try.underlying104 Try.underlying3 (zero_int _) bm nm Dm rfl HOM.out _ _ rfl (Go.Maps.keyOf_int_mk Try.underlying3 WFC.out) ?_; intro cm hat hwc; obtain rfl : cm = 1 := (look_eq (HCM.out c WFC.out) hat).trans (if_pos HIC.out); clear hat hwc))
                    go_ret
                    exact ⟨rfl, HB.out⟩
                  · rw [if_neg d5] at H
                    have HIC := Aside0.mk d5
                    clear d5
                    have H' := Aside0.mk H
                    clear H
                    go_wp2_with (first
                      | ((with_reducible refine gate_dst (N := 9) rfl ?_); refine box_event ?hg (N := 9) ?hd (cs := #[.int .i64 0, .int .i64 0, .int .i64 0, .int .i64 0, .int .i64 0]) (t := 103) ?hr ?_; (case hd => rfl); (case hg => rfl); (case hr => first | (go_simp; done) | (go_simp; rfl)); intro g9 hg w7 hbox hb; have HG9 := Aside0.mk hg; have HX9 := Aside0.mk hbox; have HW9 := Aside0.mk hb; clear hg hbox hb)
                      | ((with_reducible refine gate_store (t := 103) (p := 9) rfl ?_); refine store_event (t := 103) (p := 9) (v := ?vo9c) (w1 := (((((w7.setCell ⟨g9, 0, none⟩ (.int .i64 c)).setCell ⟨g9, 1, none⟩ (.int .i64 b0)).setCell ⟨g9, 2, none⟩ (.int .i64 b1)).setCell ⟨g9, 3, none⟩ (.int .i64 b2)).setCell ⟨g9, 4, none⟩ (.int .i64 b3))) ?hg ?ho ?hn ?hr ?_; (case ho => rfl); (case hg => rfl); (case hn => rfl); (case hr => exact store5_run _ _ 9 79 rfl g9 w7 _ _ _ _ _ rfl rfl HX9.out); intro w8 hw; have hb : Below wr.heap.size wr w8 := (by rw [hw]; exact (below_set (below_set (below_set (below_set (below_set HW9.out (Nat.le_of_eq HG9.out.symm)) (Nat.le_of_eq HG9.out.symm)) (Nat.le_of_eq HG9.out.symm)) (Nat.le_of_eq HG9.out.symm)) (Nat.le_of_eq HG9.out.symm))); have hbox : w8.heap[g9]? = some (.cells #[.int .i64 c, .int .i64 b0, .int .i64 b1, .int .i64 b2, .int .i64 b3] 103 (0, 0)) := (by rw [hw]; exact (blk_put (cs' := #[.int .i64 c, .int .i64 b0, .int .i64 b1, .int .i64 b2, .int .i64 b3]) (blk_put (cs' := #[.int .i64 c, .int .i64 b0, .int .i64 b1, .int .i64 b2, .int .i64 0]) (blk_put (cs' := #[.int .i64 c, .int .i64 b0, .int .i64 b1, .int .i64 0, .int .i64 0]) (blk_put (cs' := #[.int .i64 c, .int .i64 b0, .int .i64 0, .int .i64 0, .int .i64 0]) (blk_put (cs' := #[.int .i64 c, .int .i64 0, .int .i64 0, .int .i64 0, .int .i64 0]) HX9.out 0 (.int .i64 c) rfl) 1 (.int .i64 b0) rfl) 2 (.int .i64 b1) rfl) 3 (.int .i64 b2) rfl) 4 (.int .i64 b3) rfl)); clear hw HG9 HX9 HW9; clear hk1_0 hk1_1 hy0 hy1 hy2 hy3 hy4; have nHB_ := Aside0.mk (below_step HB.out hb); have nBK1_ := Aside0.mk (blk_below BK1.out hb); have nMET_ := Aside0.mk (MetOk.below MET.out hb); have nHO_ := Aside0.mk (Kd.R_below HO.out hb); clear HB BK1 MET HO; have HB := nHB_; have BK1 := nBK1_; have MET := nMET_; have HO := nHO_; clear nHB_ nBK1_ nMET_ nHO_; have BK9 := Aside0.mk hbox; clear hb hbox; have hk1_0 : w8.cell? ⟨g1, 0, none⟩ = some (.int .i64 a0_0) := (blk_cell BK1.out 0).trans rfl; have hk1_1 : w8.cell? ⟨g1, 1, none⟩ = some (.slice (some ad) l0_1.length c0_1) := (blk_cell BK1.out 1).trans rfl; have hk9_0 : w8.cell? ⟨g9, 0, none⟩ = some (.int .i64 c) := (blk_cell BK9.out 0).trans rfl)
                      | ((with_reducible refine gate_dst (N := 83) rfl ?_); refine goesL_ (some 83) rfl rfl Try.func89 (by kernel_rfl) rfl #[.agg #[.int .i64 a0_0, .slice (some ad) l0_1.length c0_1], .int .i64 c] rfl (by (try simp only [List.map_toArray, List.map_cons, List.map_nil]); first | done | rfl | (simp only [List.length_drop, List.length_take]; rfl)) ?_; refine (impl_used.calls a0_0 _ _ l0_1 c true _ (Kd.C_below HR.out HB.out) HC.out HUC.out).mono ?_; rintro e w9 ⟨rfl, hb⟩; refine ⟨_, rfl, ?_⟩; clear hk1_0 hk1_1 hk9_0; have nHB_ := Aside0.mk (below_step HB.out hb); have nBK1_ := Aside0.mk (blk_below BK1.out hb); have nMET_ := Aside0.mk (MetOk.below MET.out hb); have nHO_ := Aside0.mk (Kd.R_below HO.out hb); have nBK9_ := Aside0.mk (blk_below BK9.out hb); clear HB BK1 MET HO BK9; have HB := nHB_; have BK1 := nBK1_; have MET := nMET_; have HO := nHO_; have BK9 := nBK9_; clear nHB_ nBK1_ nMET_ nHO_ nBK9_; clear hb; obtain ⟨nm, Dm, hnm, him, hom, hcm⟩ := MET.out; have HNM := Aside0.mk hnm; have HIM := Aside0.mk him; have HOM := Aside0.mk hom; have HCM := Aside0.mk hcm; clear hnm him hom hcm; have hk1_0 : w9.cell? ⟨g1, 0, none⟩ = some (.int .i64 a0_0) := (blk_cell BK1.out 0).trans rfl; have hk1_1 : w9.cell? ⟨g1, 1, none⟩ = some (.slice (some ad) l0_1.length c0_1) := (blk_cell BK1.out 1).trans rfl; have hk9_0 : w9.cell? ⟨g9, 0, none⟩ = some (.int .i64 c) := (blk_cell BK9.out 0).trans rfl)
                      | ((try (refine gate_guard (by rfl) ?_; dsimp only)); at_lookup; refine wpList_lookup_own_int _ rfl _ _ 104 rfl 3 3 .i64 (Go.Maps.int_keyed Try.underlying3) Try.underlying104 Try.underlying3 (zero_int _) bm nm Dm rfl HOM.out _ _ rfl (Go.Maps.keyOf_int_mk Try.underlying3 WFC.out) ?_; intro cm hat hwc; obtain rfl : cm = 0 := (look_eq (HCM.out c WFC.out) hat).trans (if_neg HIC.out); clear hat hwc)
                      | (at_mapUpdate; refine wpList_mapUpdate_own _ rfl _ _ _ 104 rfl 3 3 (Go.Maps.int_keyed Try.underlying3) Try.underlying104 _ bm nm Dm rfl HOM.out (by have := HNM.out; have := LEN.out; unfold maxLen; omega) _ _ (.int .i64 c) rfl rfl (Go.Maps.keyOf_int_mk Try.underlying3 WFC.out) (.lit (.int .i64 1)) [] (plainElem_int Try.underlying3 (by decide)) ?_; intro w11 hown hg; have nMET_ := Aside0.mk (MetOk.put HNM.out HIM.out hown HCM.out); have nBK1_ := Aside0.mk (blk_mapped BK1.out MET.out hg); have nHB_ := Aside0.mk (below_mapped HB.out hg GE.out); have nHO_ := Aside0.mk (R_mapped HO.out MET.out hg); clear hk1_0 hk1_1 hk9_0 BK1 HB MET HO BK9 hown hg HNM HIM HOM HCM; have BK1 := nBK1_; have HB := nHB_; have MET := nMET_; have HO := nHO_; clear nBK1_ nHB_ nMET_ nHO_; have hk1_0 : w11.cell? ⟨g1, 0, none⟩ = some (.int .i64 a0_0) := (blk_cell BK1.out 0).trans rfl))
                    go_roundg k2
                    case measure => have := HK2.out; omega
                    case rel => exact ⟨_, told2 ++ [c], rfl, H', ⟨by have := HK2.out; omega⟩, BK1, HB, MET, HO⟩

end Go.Proofs.Ytngjaajcdbodeaa.All

/- The program's Even, a closure over two numbers of its own: it comes to a plain recursion over the pages. No condition. -/
namespace Go.Proofs.Ytngjaajcdbodeaa.All
open Go.RowKit Go.Proofs.YtngjaajcdbodeaaW.PrintWords Go.Proofs.YtngjaajcdbodeaaW.PrintLast Go.Proofs.YtngjaajcdbodeaaW.PrintMore
set_option linter.unusedVariables false
set_option linter.unusedSimpArgs false


/-! ### impl_Even: by hand -/
mutual
/-- The depth of the last leaf, and whether all leaves so far lie alike, from page i on. -/
def evM : Nat → List S90 → Int → Int → Int → Bool → Option (Int × Bool)
  | 0, _, _, _, _, _ => none
  | k + 1, ps, i, depth, at_, same => if depth > 12 then some (at_, same) else (if 0 ≤ i then (if i < (ps.length : Int) then (if (rd_T90 ps i).f1.f0 = true then some (depth, same && (at_ == 0 || at_ == depth)) else evL k ps (rd_T90 ps i).f1.f1 depth at_ same 0) else none) else none)
def evL : Nat → List S90 → List S103 → Int → Int → Bool → Int → Option (Int × Bool)
  | 0, _, _, _, _, _, _ => none
  | k + 1, ps, es, depth, at_, same, x => if x < (es.length : Int) then (if 0 ≤ x then (evM k ps (rd_T103 es x).f0 (wrap64 (depth + 1)) at_ same).bind fun t => evL k ps es depth t.1 t.2 (wrap64 (x + 1)) else none) else some (at_, same)
end
theorem ev_mono : ∀ k, (∀ ps i d a s, LeO (evM k ps i d a s) (evM (k + 1) ps i d a s)) ∧ (∀ ps es d a s x, LeO (evL k ps es d a s x) (evL (k + 1) ps es d a s x))
  | 0 => ⟨fun _ _ _ _ _ r h => by simp [evM] at h, fun _ _ _ _ _ _ r h => by simp [evL] at h⟩
  | k + 1 => by
    obtain ⟨h1, h2⟩ := ev_mono k
    refine ⟨fun ps i d a s => ?_, fun ps es d a s x => ?_⟩
    · rw [evM, evM]
      exact LeO.ite (LeO.refl _) (LeO.ite (LeO.ite (LeO.ite (LeO.refl _) (h2 _ _ _ _ _ _)) (LeO.refl _)) (LeO.refl _))
    · rw [evL, evL]
      exact LeO.ite (LeO.ite (LeO.bind (h1 _ _ _ _ _) (fun _ => h2 _ _ _ _ _ _)) (LeO.refl _)) (LeO.refl _)
def impl_Even.f (k : Nat) (a0_0 : Int) (l0_1 : List S90) : Option Bool := (impl_BookOk.f k a0_0 l0_1).bind fun t => if t = true then (evM k l0_1 a0_0 1 0 true).bind fun q => some q.2 else some false
theorem impl_Even.mono : ∀ a0 a1 k, LeO (impl_Even.f k a0 a1) (impl_Even.f (k + 1) a0 a1) := fun a0 a1 k => by
  unfold impl_Even.f
  exact LeO.bind (impl_BookOk.mono _ _ _) (fun _ => LeO.ite (LeO.bind ((ev_mono k).1 _ _ _ _ _) (fun _ => LeO.refl _)) (LeO.refl _))
/-- What stands while the closure goes on. -/
structure EState (w0 : World) (g1 g3 g4 g5 : Nat) (root : Int) (A : Option Addr) (c n : Nat) (w : World) (at_ : Int) (same : Bool) : Prop where
  below : Below w0.heap.size w0 w
  box : w.heap[g1]? = some (.cells #[.int .i64 root, .slice A n c] 49 (0, 0))
  at1 : w.heap[g3]? = some (.cells #[.int .i64 at_] 3 (0, 0))
  sam : w.heap[g4]? = some (.cells #[.bool same] 4 (0, 0))
  fn : w.heap[g5]? = some (.cells #[.func (.func 98) #[] #[.pointer (some ⟨g1, 0, none⟩), .pointer (some ⟨g4, 0, none⟩), .pointer (some ⟨g3, 0, none⟩), .pointer (some ⟨g5, 0, none⟩)]] 108 (0, 0))
  g3b : w0.heap.size ≤ g3
  g4b : w0.heap.size ≤ g4
section
variable {w0 : World} {g1 g3 g4 g5 : Nat} {root : Int} {A : Option Addr} {c n : Nat} {w w' : World} {at_ : Int} {same : Bool}
theorem EState.next (h : EState w0 g1 g3 g4 g5 root A c n w at_ same) (hb : Below w.heap.size w w') : EState w0 g1 g3 g4 g5 root A c n w' at_ same :=
  ⟨below_step h.below hb, blk_below h.box hb, blk_below h.at1 hb, blk_below h.sam hb, blk_below h.fn hb, h.g3b, h.g4b⟩
theorem EState.leaf (h : EState w0 g1 g3 g4 g5 root A c n w at_ same) (s : Bool) (d : Int) : EState w0 g1 g3 g4 g5 root A c n ((w.setCell ⟨g4, 0, none⟩ (.bool s)).setCell ⟨g3, 0, none⟩ (.int .i64 d)) d s := by
  have b1 := blkFarH h.box (blkNe h.box h.sam (by decide)) (.bool s)
  have b3 := blkFarH h.at1 (blkNe h.at1 h.sam (by decide)) (.bool s)
  have b4 := blk_put (cs' := #[.bool s]) h.sam 0 (.bool s) rfl
  have b5 := blkFarH h.fn (blkNe h.fn h.sam (by decide)) (.bool s)
  exact ⟨below_set (below_set h.below h.g4b) h.g3b, blkFarH b1 (blkNe b1 b3 (by decide)) _, blk_put (cs' := #[.int .i64 d]) b3 0 _ rfl, blkFarH b4 (blkNe b4 b3 (by decide)) _, blkFarH b5 (blkNe b5 b3 (by decide)) _, h.g3b, h.g4b⟩
theorem EState.fncell (h : EState w0 g1 g3 g4 g5 root A c n w at_ same) : w.cell? ⟨g5, 0, none⟩ = some (.func (.func 98) #[] #[.pointer (some ⟨g1, 0, none⟩), .pointer (some ⟨g4, 0, none⟩), .pointer (some ⟨g3, 0, none⟩), .pointer (some ⟨g5, 0, none⟩)]) := (blk_cell h.fn 0).trans rfl
end
def EvenSaid (w0 : World) (g1 g3 g4 g5 : Nat) (root : Int) (A : Option Addr) (c : Nat) (ps : List S90) (k : Nat) : Prop :=
  ∀ (i depth at_ : Int) (same : Bool) (q : Int × Bool) (w : World), EState w0 g1 g3 g4 g5 root A c ps.length w at_ same → evM k ps i depth at_ same = some q →
    Calls Try.prog 98 #[.int .i64 i, .int .i64 depth, .pointer (some ⟨g1, 0, none⟩), .pointer (some ⟨g4, 0, none⟩), .pointer (some ⟨g3, 0, none⟩), .pointer (some ⟨g5, 0, none⟩)] w (fun e w' => ∃ v, e = .returned v ∧ EState w0 g1 g3 g4 g5 root A c ps.length w' q.1 q.2)

set_option maxHeartbeats 8000000 in
set_option maxRecDepth 100000 in
theorem even_step (w0 : World) (g1 g3 g4 g5 : Nat) (root : Int) (A : Option Addr) (c : Nat) (ps : List S90) (hr0 : Kd.C k90 w0 A ps.length ps) (hc0 : ps.length ≤ c) (k : Nat) (ih : ∀ k', k' ≤ k → EvenSaid w0 g1 g3 g4 g5 root A c ps k') : EvenSaid w0 g1 g3 g4 g5 root A c ps (k + 1) := by
  intro i depth at_ same q w hv h
  have HR := Aside0.mk hr0
  have HV := Aside0.mk hv
  have IH := Aside0.mk ih
  clear hr0 hc0 hv ih
  have hu1 := Try.underlying90
  have hu2 := Try.underlying49
  have hu3 := Try.underlying54
  have hu4 := Try.underlying103
  rw [evM] at h
  by_cases c1 : depth > 12
  · rw [if_pos c1] at h
    obtain rfl := Option.some.inj h
    have c1b : decide (12 < depth) = true := decide_eq_true c1
    clear h c1
    go_enter Try.func98, Try.ntmps98
    go_wp2
    refine bodyPost_ret (results_none rfl _ _ _) rfl ?_
    exact ⟨_, rfl, HV.out⟩
  rw [if_neg c1] at h
  have c1b : decide (12 < depth) = false := decide_eq_false c1
  clear c1
  by_cases c2 : 0 ≤ i
  rotate_left
  · rw [if_neg c2] at h
    exact absurd h (by simp)
  rw [if_pos c2] at h
  by_cases c3 : i < (ps.length : Int)
  rotate_left
  · rw [if_neg c3] at h
    exact absurd h (by simp)
  rw [if_pos c3] at h
  obtain ⟨ad, A2, c2_, e2, hz0, hz1, hz2, hl2, hC2⟩ := at_T90 HR.out i c2 c3
  subst e2
  clear hz0
  replace hz1 := (HV.out.below.cell (World.block_lt_of_cell? w0 _ hz1)).trans hz1
  replace hz2 := (HV.out.below.cell (World.block_lt_of_cell? w0 _ hz2)).trans hz2
  have HCC := Aside0.mk hC2
  clear hC2 hl2
  generalize rd_T90 ps i = pg at h hz1 hz2 HCC
  obtain ⟨u, lf, es⟩ := pg
  dsimp only at h hz1 hz2 HCC
  have c2b : decide (0 ≤ i) = true := decide_eq_true c2
  have c3b : decide (i < (ps.length : Int)) = true := decide_eq_true c3
  have hk1_1 : w.cell? ⟨g1, 1, none⟩ = some (.slice (some ad) ps.length c) := (blk_cell HV.out.box 1).trans rfl
  cases lf with
  | true =>
    rw [if_pos rfl] at h
    obtain rfl := Option.some.inj h
    clear h
    cases same with
    | false =>
      go_enter Try.func98, Try.ntmps98
      go_wp2_with (first
        | ((with_reducible refine gate_dst (N := 8) rfl ?_); refine box_event ?hg (N := 8) ?hd (cs := #[.bool false, .slice none 0 0]) (t := 54) ?hr ?_; (case hd => rfl); (case hg => rfl); (case hr => first | (go_simp; done) | (go_simp; rfl)); intro g8 hg w7 hbox hb; have hs8_0 : w7.cell? ⟨g8, 0, none⟩ = some (.bool false) := (blk_cell hbox 0).trans rfl; have hf8_0 := blk_frozen hbox 0; have hs8_1 : w7.cell? ⟨g8, 1, none⟩ = some (.slice none 0 0) := (blk_cell hbox 1).trans rfl; have hf8_1 := blk_frozen hbox 1; have HG8 := Aside0.mk hg; have HX8 := Aside0.mk hbox; have HW8 := Aside0.mk hb; clear hg hbox hb)
        | ((with_reducible refine gate_store (t := 54) (p := 8) rfl ?_); refine store_event (t := 54) (p := 8) (v := ?vo8a) (w1 := ((w7.setCell ⟨g8, 0, none⟩ (.bool true)).setCell ⟨g8, 1, none⟩ (.slice A2 es.length c2_))) ?hg ?ho ?hn ?hr ?_; (case ho => rfl); (case hg => rfl); (case hn => rfl); (case hr => first | (go_simp; done) | (go_simp; rfl)); intro w8 hw; have hb : Below w.heap.size w w8 := (by rw [hw]; exact (below_set (below_set HW8.out (Nat.le_of_eq HG8.out.symm)) (Nat.le_of_eq HG8.out.symm))); have hbox : w8.heap[g8]? = some (.cells #[.bool true, .slice A2 es.length c2_] 54 (0, 0)) := (by rw [hw]; exact (blk_put (cs' := #[.bool true, .slice A2 es.length c2_]) (blk_put (cs' := #[.bool true, .slice none 0 0]) HX8.out 0 (.bool true) rfl) 1 (.slice A2 es.length c2_) rfl)); clear hw HG8 HX8 HW8 hs8_0 hf8_0 hs8_1 hf8_1; clear hk1_1 hz1 hz2; have HV8 := Aside0.mk (HV.out.next hb); have hk8_0 : w8.cell? ⟨g8, 0, none⟩ = some (.bool true) := (blk_cell hbox 0).trans rfl; have hk8_1 : w8.cell? ⟨g8, 1, none⟩ = some (.slice A2 es.length c2_) := (blk_cell hbox 1).trans rfl; clear hb hbox; have hk3 : w8.cell? ⟨g3, 0, none⟩ = some (.int .i64 at_) := (blk_cell HV8.out.at1 0).trans rfl; have hf3 := blk_frozen HV8.out.at1 0; have hk4 : w8.cell? ⟨g4, 0, none⟩ = some (.bool false) := (blk_cell HV8.out.sam 0).trans rfl; have hf4 := blk_frozen HV8.out.sam 0; have hne : g3 ≠ g4 := blkNe HV8.out.at1 HV8.out.sam (by decide); have hne' : g4 ≠ g3 := fun e => hne e.symm))
      refine bodyPost_ret (results_none rfl _ _ _) rfl ?_
      exact ⟨_, rfl, HV8.out.leaf false depth⟩
    | true =>
      by_cases d1 : at_ = 0
      · subst d1
        go_enter Try.func98, Try.ntmps98
        go_wp2_with (first
          | ((with_reducible refine gate_dst (N := 8) rfl ?_); refine box_event ?hg (N := 8) ?hd (cs := #[.bool false, .slice none 0 0]) (t := 54) ?hr ?_; (case hd => rfl); (case hg => rfl); (case hr => first | (go_simp; done) | (go_simp; rfl)); intro g8 hg w7 hbox hb; have hs8_0 : w7.cell? ⟨g8, 0, none⟩ = some (.bool false) := (blk_cell hbox 0).trans rfl; have hf8_0 := blk_frozen hbox 0; have hs8_1 : w7.cell? ⟨g8, 1, none⟩ = some (.slice none 0 0) := (blk_cell hbox 1).trans rfl; have hf8_1 := blk_frozen hbox 1; have HG8 := Aside0.mk hg; have HX8 := Aside0.mk hbox; have HW8 := Aside0.mk hb; clear hg hbox hb)
          | ((with_reducible refine gate_store (t := 54) (p := 8) rfl ?_); refine store_event (t := 54) (p := 8) (v := ?vo8b) (w1 := ((w7.setCell ⟨g8, 0, none⟩ (.bool true)).setCell ⟨g8, 1, none⟩ (.slice A2 es.length c2_))) ?hg ?ho ?hn ?hr ?_; (case ho => rfl); (case hg => rfl); (case hn => rfl); (case hr => first | (go_simp; done) | (go_simp; rfl)); intro w8 hw; have hb : Below w.heap.size w w8 := (by rw [hw]; exact (below_set (below_set HW8.out (Nat.le_of_eq HG8.out.symm)) (Nat.le_of_eq HG8.out.symm))); have hbox : w8.heap[g8]? = some (.cells #[.bool true, .slice A2 es.length c2_] 54 (0, 0)) := (by rw [hw]; exact (blk_put (cs' := #[.bool true, .slice A2 es.length c2_]) (blk_put (cs' := #[.bool true, .slice none 0 0]) HX8.out 0 (.bool true) rfl) 1 (.slice A2 es.length c2_) rfl)); clear hw HG8 HX8 HW8 hs8_0 hf8_0 hs8_1 hf8_1; clear hk1_1 hz1 hz2; have HV8 := Aside0.mk (HV.out.next hb); have hk8_0 : w8.cell? ⟨g8, 0, none⟩ = some (.bool true) := (blk_cell hbox 0).trans rfl; have hk8_1 : w8.cell? ⟨g8, 1, none⟩ = some (.slice A2 es.length c2_) := (blk_cell hbox 1).trans rfl; clear hb hbox; have hk3 : w8.cell? ⟨g3, 0, none⟩ = some (.int .i64 0) := (blk_cell HV8.out.at1 0).trans rfl; have hf3 := blk_frozen HV8.out.at1 0; have hk4 : w8.cell? ⟨g4, 0, none⟩ = some (.bool true) := (blk_cell HV8.out.sam 0).trans rfl; have hf4 := blk_frozen HV8.out.sam 0; have hne : g3 ≠ g4 := blkNe HV8.out.at1 HV8.out.sam (by decide); have hne' : g4 ≠ g3 := fun e => hne e.symm))
        refine bodyPost_ret (results_none rfl _ _ _) rfl ?_
        exact ⟨_, rfl, HV8.out.leaf true depth⟩
      · have d1b : (at_ == 0) = false := beq_eq_false_iff_ne.mpr d1
        by_cases d2 : at_ = depth
        · subst d2
          clear d1
          rw [d1b]
          go_enter Try.func98, Try.ntmps98
          go_wp2_with (first
            | ((with_reducible refine gate_dst (N := 8) rfl ?_); refine box_event ?hg (N := 8) ?hd (cs := #[.bool false, .slice none 0 0]) (t := 54) ?hr ?_; (case hd => rfl); (case hg => rfl); (case hr => first | (go_simp; done) | (go_simp; rfl)); intro g8 hg w7 hbox hb; have hs8_0 : w7.cell? ⟨g8, 0, none⟩ = some (.bool false) := (blk_cell hbox 0).trans rfl; have hf8_0 := blk_frozen hbox 0; have hs8_1 : w7.cell? ⟨g8, 1, none⟩ = some (.slice none 0 0) := (blk_cell hbox 1).trans rfl; have hf8_1 := blk_frozen hbox 1; have HG8 := Aside0.mk hg; have HX8 := Aside0.mk hbox; have HW8 := Aside0.mk hb; clear hg hbox hb)
            | ((with_reducible refine gate_store (t := 54) (p := 8) rfl ?_); refine store_event (t := 54) (p := 8) (v := ?vo8c) (w1 := ((w7.setCell ⟨g8, 0, none⟩ (.bool true)).setCell ⟨g8, 1, none⟩ (.slice A2 es.length c2_))) ?hg ?ho ?hn ?hr ?_; (case ho => rfl); (case hg => rfl); (case hn => rfl); (case hr => first | (go_simp; done) | (go_simp; rfl)); intro w8 hw; have hb : Below w.heap.size w w8 := (by rw [hw]; exact (below_set (below_set HW8.out (Nat.le_of_eq HG8.out.symm)) (Nat.le_of_eq HG8.out.symm))); have hbox : w8.heap[g8]? = some (.cells #[.bool true, .slice A2 es.length c2_] 54 (0, 0)) := (by rw [hw]; exact (blk_put (cs' := #[.bool true, .slice A2 es.length c2_]) (blk_put (cs' := #[.bool true, .slice none 0 0]) HX8.out 0 (.bool true) rfl) 1 (.slice A2 es.length c2_) rfl)); clear hw HG8 HX8 HW8 hs8_0 hf8_0 hs8_1 hf8_1; clear hk1_1 hz1 hz2; have HV8 := Aside0.mk (HV.out.next hb); have hk8_0 : w8.cell? ⟨g8, 0, none⟩ = some (.bool true) := (blk_cell hbox 0).trans rfl; have hk8_1 : w8.cell? ⟨g8, 1, none⟩ = some (.slice A2 es.length c2_) := (blk_cell hbox 1).trans rfl; clear hb hbox; have hk3 : w8.cell? ⟨g3, 0, none⟩ = some (.int .i64 at_) := (blk_cell HV8.out.at1 0).trans rfl; have hf3 := blk_frozen HV8.out.at1 0; have hk4 : w8.cell? ⟨g4, 0, none⟩ = some (.bool true) := (blk_cell HV8.out.sam 0).trans rfl; have hf4 := blk_frozen HV8.out.sam 0; have hne : g3 ≠ g4 := blkNe HV8.out.at1 HV8.out.sam (by decide); have hne' : g4 ≠ g3 := fun e => hne e.symm))
          refine bodyPost_ret (results_none rfl _ _ _) rfl ?_
          refine ⟨_, rfl, ?_⟩
          have := HV8.out.leaf true at_
          simpa using this
        · have d2b : (at_ == depth) = false := beq_eq_false_iff_ne.mpr d2
          clear d1 d2
          rw [d1b, d2b]
          go_enter Try.func98, Try.ntmps98
          go_wp2_with (first
            | ((with_reducible refine gate_dst (N := 8) rfl ?_); refine box_event ?hg (N := 8) ?hd (cs := #[.bool false, .slice none 0 0]) (t := 54) ?hr ?_; (case hd => rfl); (case hg => rfl); (case hr => first | (go_simp; done) | (go_simp; rfl)); intro g8 hg w7 hbox hb; have hs8_0 : w7.cell? ⟨g8, 0, none⟩ = some (.bool false) := (blk_cell hbox 0).trans rfl; have hf8_0 := blk_frozen hbox 0; have hs8_1 : w7.cell? ⟨g8, 1, none⟩ = some (.slice none 0 0) := (blk_cell hbox 1).trans rfl; have hf8_1 := blk_frozen hbox 1; have HG8 := Aside0.mk hg; have HX8 := Aside0.mk hbox; have HW8 := Aside0.mk hb; clear hg hbox hb)
            | ((with_reducible refine gate_store (t := 54) (p := 8) rfl ?_); refine store_event (t := 54) (p := 8) (v := ?vo8d) (w1 := ((w7.setCell ⟨g8, 0, none⟩ (.bool true)).setCell ⟨g8, 1, none⟩ (.slice A2 es.length c2_))) ?hg ?ho ?hn ?hr ?_; (case ho => rfl); (case hg => rfl); (case hn => rfl); (case hr => first | (go_simp; done) | (go_simp; rfl)); intro w8 hw; have hb : Below w.heap.size w w8 := (by rw [hw]; exact (below_set (below_set HW8.out (Nat.le_of_eq HG8.out.symm)) (Nat.le_of_eq HG8.out.symm))); have hbox : w8.heap[g8]? = some (.cells #[.bool true, .slice A2 es.length c2_] 54 (0, 0)) := (by rw [hw]; exact (blk_put (cs' := #[.bool true, .slice A2 es.length c2_]) (blk_put (cs' := #[.bool true, .slice none 0 0]) HX8.out 0 (.bool true) rfl) 1 (.slice A2 es.length c2_) rfl)); clear hw HG8 HX8 HW8 hs8_0 hf8_0 hs8_1 hf8_1; clear hk1_1 hz1 hz2; have HV8 := Aside0.mk (HV.out.next hb); have hk8_0 : w8.cell? ⟨g8, 0, none⟩ = some (.bool true) := (blk_cell hbox 0).trans rfl; have hk8_1 : w8.cell? ⟨g8, 1, none⟩ = some (.slice A2 es.length c2_) := (blk_cell hbox 1).trans rfl; clear hb hbox; have hk3 : w8.cell? ⟨g3, 0, none⟩ = some (.int .i64 at_) := (blk_cell HV8.out.at1 0).trans rfl; have hf3 := blk_frozen HV8.out.at1 0; have hk4 : w8.cell? ⟨g4, 0, none⟩ = some (.bool true) := (blk_cell HV8.out.sam 0).trans rfl; have hf4 := blk_frozen HV8.out.sam 0; have hne : g3 ≠ g4 := blkNe HV8.out.at1 HV8.out.sam (by decide); have hne' : g4 ≠ g3 := fun e => hne e.symm))
          refine bodyPost_ret (results_none rfl _ _ _) rfl ?_
          exact ⟨_, rfl, HV8.out.leaf false depth⟩
  | false =>
    rw [if_neg (by decide)] at h
    have H' := Aside0.mk h
    clear h
    go_enter Try.func98, Try.ntmps98
    go_wp2_with (first
      | ((with_reducible refine gate_dst (N := 8) rfl ?_); refine box_event ?hg (N := 8) ?hd (cs := #[.bool false, .slice none 0 0]) (t := 54) ?hr ?_; (case hd => rfl); (case hg => rfl); (case hr => first | (go_simp; done) | (go_simp; rfl)); intro g8 hg w7 hbox hb; have hs8_0 : w7.cell? ⟨g8, 0, none⟩ = some (.bool false) := (blk_cell hbox 0).trans rfl; have hf8_0 := blk_frozen hbox 0; have hs8_1 : w7.cell? ⟨g8, 1, none⟩ = some (.slice none 0 0) := (blk_cell hbox 1).trans rfl; have hf8_1 := blk_frozen hbox 1; have HG8 := Aside0.mk hg; have HX8 := Aside0.mk hbox; have HW8 := Aside0.mk hb; clear hg hbox hb)
      | ((with_reducible refine gate_store (t := 54) (p := 8) rfl ?_); refine store_event (t := 54) (p := 8) (v := ?vo8e) (w1 := ((w7.setCell ⟨g8, 0, none⟩ (.bool false)).setCell ⟨g8, 1, none⟩ (.slice A2 es.length c2_))) ?hg ?ho ?hn ?hr ?_; (case ho => rfl); (case hg => rfl); (case hn => rfl); (case hr => first | (go_simp; done) | (go_simp; rfl)); intro w8 hw; have hb : Below w.heap.size w w8 := (by rw [hw]; exact (below_set (below_set HW8.out (Nat.le_of_eq HG8.out.symm)) (Nat.le_of_eq HG8.out.symm))); have hbox : w8.heap[g8]? = some (.cells #[.bool false, .slice A2 es.length c2_] 54 (0, 0)) := (by rw [hw]; exact (blk_put (cs' := #[.bool false, .slice A2 es.length c2_]) (blk_put (cs' := #[.bool false, .slice none 0 0]) HX8.out 0 (.bool false) rfl) 1 (.slice A2 es.length c2_) rfl)); clear hw HG8 HX8 HW8 hs8_0 hf8_0 hs8_1 hf8_1; clear hk1_1 hz1 hz2; have HV8 := Aside0.mk (HV.out.next hb); have hk8_0 : w8.cell? ⟨g8, 0, none⟩ = some (.bool false) := (blk_cell hbox 0).trans rfl; have hk8_1 : w8.cell? ⟨g8, 1, none⟩ = some (.slice A2 es.length c2_) := (blk_cell hbox 1).trans rfl; clear hb hbox))
    go_loopg [35] k (fun kq v35 w' => ∃ (x : Int) (a2 : Int) (s2 : Bool), v35 = .int .i64 x ∧ Aside0 (evL kq ps es depth a2 s2 x = some q) ∧ Aside0 (kq ≤ k) ∧ Aside0 (EState w0 g1 g3 g4 g5 root (some ad) c ps.length w' a2 s2))
    case atStart => exact ⟨0, at_, same, rfl, H', ⟨Nat.le_refl _⟩, HV8⟩
    case round =>
      clear H' HV8 hk8_0 hk8_1
      obtain ⟨x, a2, s2, rfl, HA, HK1, HV⟩ := hrel
      cases gk with
      | zero => exact absurd HA.out (by simp [evL])
      | succ k1 =>
        have H := HA.out
        clear HA
        rw [evL] at H
        by_cases d1 : x < (es.length : Int)
        rotate_left
        · rw [if_neg d1] at H
          have d1b : decide (x < (es.length : Int)) = false := decide_eq_false d1
          obtain rfl := Option.some.inj H
          clear H d1
          go_wp2
          go_end0
          exact ⟨⟨_, rfl⟩, HV.out⟩
        rw [if_pos d1] at H
        have d1b : decide (x < (es.length : Int)) = true := decide_eq_true d1
        by_cases d2 : 0 ≤ x
        rotate_left
        · rw [if_neg d2] at H
          exact absurd H (by simp)
        rw [if_pos d2] at H
        obtain ⟨⟨a3, s3⟩, hq, H⟩ := Option.bind_eq_some_iff.mp H
        have HQ := Aside0.mk hq
        have H' := Aside0.mk H
        clear H hq
        obtain ⟨ad3, e3, hy0, hy1, hy2, hy3, hy4⟩ := at_T103 HCC.out x d2 d1
        cases e3
        replace hy0 := (HV.out.below.cell (World.block_lt_of_cell? w0 _ hy0)).trans hy0
        replace hy1 := (HV.out.below.cell (World.block_lt_of_cell? w0 _ hy1)).trans hy1
        replace hy2 := (HV.out.below.cell (World.block_lt_of_cell? w0 _ hy2)).trans hy2
        replace hy3 := (HV.out.below.cell (World.block_lt_of_cell? w0 _ hy3)).trans hy3
        replace hy4 := (HV.out.below.cell (World.block_lt_of_cell? w0 _ hy4)).trans hy4
        generalize rd_T103 es x = en at HQ hy0 hy1 hy2 hy3 hy4
        obtain ⟨c0, b0, b1, b2, b3⟩ := en
        dsimp only at HQ hy0 hy1 hy2 hy3 hy4
        go_wp2_with (first
          | ((with_reducible refine gate_dst (N := 10) rfl ?_); refine box_event ?hg (N := 10) ?hd (cs := #[.int .i64 0, .int .i64 0, .int .i64 0, .int .i64 0, .int .i64 0]) (t := 103) ?hr ?_; (case hd => rfl); (case hg => rfl); (case hr => first | (go_simp; done) | (go_simp; rfl)); intro g10 hg w7 hbox hb; have HG10 := Aside0.mk hg; have HX10 := Aside0.mk hbox; have HW10 := Aside0.mk hb; clear hg hbox hb)
          | ((with_reducible refine gate_store (t := 103) (p := 10) rfl ?_); refine store_event (t := 103) (p := 10) (v := ?vo10) (w1 := (((((w7.setCell ⟨g10, 0, none⟩ (.int .i64 c0)).setCell ⟨g10, 1, none⟩ (.int .i64 b0)).setCell ⟨g10, 2, none⟩ (.int .i64 b1)).setCell ⟨g10, 3, none⟩ (.int .i64 b2)).setCell ⟨g10, 4, none⟩ (.int .i64 b3))) ?hg ?ho ?hn ?hr ?_; (case ho => rfl); (case hg => rfl); (case hn => rfl); (case hr => exact store5_run _ _ 10 38 rfl g10 w7 _ _ _ _ _ rfl rfl HX10.out); intro w8 hw; have hb : Below wr.heap.size wr w8 := (by rw [hw]; exact (below_set (below_set (below_set (below_set (below_set HW10.out (Nat.le_of_eq HG10.out.symm)) (Nat.le_of_eq HG10.out.symm)) (Nat.le_of_eq HG10.out.symm)) (Nat.le_of_eq HG10.out.symm)) (Nat.le_of_eq HG10.out.symm))); have hbox : w8.heap[g10]? = some (.cells #[.int .i64 c0, .int .i64 b0, .int .i64 b1, .int .i64 b2, .int .i64 b3] 103 (0, 0)) := (by rw [hw]; exact (blk_put (cs' := #[.int .i64 c0, .int .i64 b0, .int .i64 b1, .int .i64 b2, .int .i64 b3]) (blk_put (cs' := #[.int .i64 c0, .int .i64 b0, .int .i64 b1, .int .i64 b2, .int .i64 0]) (blk_put (cs' := #[.int .i64 c0, .int .i64 b0, .int .i64 b1, .int .i64 0, .int .i64 0]) (blk_put (cs' := #[.int .i64 c0, .int .i64 b0, .int .i64 0, .int .i64 0, .int .i64 0]) (blk_put (cs' := #[.int .i64 c0, .int .i64 0, .int .i64 0, .int .i64 0, .int .i64 0]) HX10.out 0 (.int .i64 c0) rfl) 1 (.int .i64 b0) rfl) 2 (.int .i64 b1) rfl) 3 (.int .i64 b2) rfl) 4 (.int .i64 b3) rfl)); clear hw HG10 HX10 HW10; clear hy0 hy1 hy2 hy3 hy4; have HV8 := Aside0.mk (HV.out.next hb); have hk10 : w8.cell? ⟨g10, 0, none⟩ = some (.int .i64 c0) := (blk_cell hbox 0).trans rfl; have hk5 := HV8.out.fncell; clear hb hbox)
          | (go_at_call 98; refine (IH.out k1 (by have := HK1.out; omega) _ _ a2 s2 (a3, s3) _ HV8.out HQ.out).mono ?_; rintro e w9 ⟨v9, rfl, hv9⟩; clear hk10 hk5))
        go_roundg k1
        case measure => have := HK1.out; omega
        case rel => exact ⟨_, a3, s3, rfl, H', ⟨by have := HK1.out; omega⟩, ⟨hv9⟩⟩
theorem even_all (w0 : World) (g1 g3 g4 g5 : Nat) (root : Int) (A : Option Addr) (c : Nat) (ps : List S90) (hr0 : Kd.C k90 w0 A ps.length ps) (hc0 : ps.length ≤ c) : ∀ k k', k' ≤ k → EvenSaid w0 g1 g3 g4 g5 root A c ps k'
  | 0, k', hk => by
    obtain rfl : k' = 0 := by omega
    intro i depth at_ same q w _ h
    simp [evM] at h
  | k + 1, k', hk => by
    rcases Nat.lt_or_ge k' (k + 1) with hlt | hge
    · exact even_all w0 g1 g3 g4 g5 root A c ps hr0 hc0 k k' (by omega)
    obtain rfl : k' = k + 1 := by omega
    exact even_step w0 g1 g3 g4 g5 root A c ps hr0 hc0 k (fun k' hk' => even_all w0 g1 g3 g4 g5 root A c ps hr0 hc0 k k' hk')
theorem func_store2 (o : Oper) (a : Act) (p v : Tmp) (hop : o.op = .store 108 (.tmp p) (.tmp v)) (g : Nat) (w : World) (f : FuncId) (fs : Array Value) (hp : a.eval (.tmp p) = .pointer (some ⟨g, 0, none⟩)) (hv : a.eval (.tmp v) = .func (.func f) #[] fs)
    (hbox : w.heap[g]? = some (.cells #[.nilFunc] 108 (0, 0))) : (execOp a.eval o).run Try.prog w = .ok .skip (w.setCell ⟨g, 0, none⟩ (.func (.func f) #[] fs)) := by
  have hs : w.cell? ⟨g, 0, none⟩ = some .nilFunc := (blk_cell hbox 0).trans rfl
  have hf := blk_frozen hbox 0
  have hu := Try.underlying108
  unfold execOp
  rw [hop]
  simp only [hp, hv]
  have hone : (Value.func (.func f) #[] fs).oneCell' = true := rfl
  clear hop hp hv hbox
  first | (go_simp; done) | (go_simp; rfl) | (go_simp; rw [run_store _ _ _ _ _ hone]; simp [hs, hf]; done)
set_option maxHeartbeats 8000000 in
set_option maxRecDepth 100000 in
theorem impl_Even.calls (k : Nat) (a0_0 : Int) (A0_1 : Option Addr) (c0_1 : Nat) (l0_1 : List (S90)) (r : Bool) (w : World) (hr0_1 : Kd.C k90 w A0_1 l0_1.length l0_1) (hc0_1 : l0_1.length ≤ c0_1) (h : impl_Even.f k a0_0 l0_1 = some r) :
    Calls Try.prog 46 #[.agg #[.int .i64 a0_0, .slice A0_1 l0_1.length c0_1]] w fun e w' => e = .returned (.bool r) ∧ Below w.heap.size w w' := by
  have HS := Aside0.mk (fun g1 g3 g4 g5 => even_all w g1 g3 g4 g5 a0_0 A0_1 c0_1 l0_1 hr0_1 hc0_1 k k (Nat.le_refl _))
  have HR := Aside0.mk hr0_1
  have HC := Aside0.mk hc0_1
  clear hr0_1 hc0_1
  have HB := Aside0.mk (Below.refl w.heap.size w)
  have hu2 := Try.underlying49
  unfold impl_Even.f at h
  obtain ⟨t, ht, h⟩ := Option.bind_eq_some_iff.mp h
  have HT := Aside0.mk ht
  clear ht
  cases t with
  | false =>
    rw [if_neg (by decide)] at h
    obtain rfl := Option.some.inj h
    clear h
    go_enter Try.func46, Try.ntmps46
    go_wp2_with (first
      | ((with_reducible refine gate_dst (N := 1) rfl ?_); refine box_event ?hg (N := 1) ?hd (cs := #[.int .i64 a0_0, .slice A0_1 l0_1.length c0_1]) (t := 49) ?hr ?_; (case hd => rfl); (case hg => rfl); (case hr => first | (go_simp; done) | (go_simp; rfl)); intro g1 hg w1 hbox hb; have nHB_ := Aside0.mk (below_step HB.out hb); clear HB; have HB := nHB_; clear nHB_; have BK1 := Aside0.mk hbox; clear hb hg hbox; have hk1_0 : w1.cell? ⟨g1, 0, none⟩ = some (.int .i64 a0_0) := (blk_cell BK1.out 0).trans rfl; have hk1_1 : w1.cell? ⟨g1, 1, none⟩ = some (.slice A0_1 l0_1.length c0_1) := (blk_cell BK1.out 1).trans rfl)
      | ((with_reducible refine gate_dst (N := 7) rfl ?_); refine goesL_ (some 7) rfl rfl Try.func42 (by kernel_rfl) rfl #[.agg #[.int .i64 a0_0, .slice A0_1 l0_1.length c0_1]] rfl (by (try simp only [List.map_toArray, List.map_cons, List.map_nil]); first | done | rfl | (simp only [List.length_drop, List.length_take]; rfl)) ?_; refine (impl_BookOk.calls k a0_0 _ _ l0_1 false _ (Kd.C_below HR.out HB.out) HC.out HT.out).mono ?_; rintro e w2 ⟨rfl, hb⟩; refine ⟨_, rfl, ?_⟩; clear hk1_0 hk1_1; have nHB_ := Aside0.mk (below_step HB.out hb); have nBK1_ := Aside0.mk (blk_below BK1.out hb); clear HB BK1; have HB := nHB_; have BK1 := nBK1_; clear nHB_ nBK1_; clear hb; have hk1_0 : w2.cell? ⟨g1, 0, none⟩ = some (.int .i64 a0_0) := (blk_cell BK1.out 0).trans rfl; have hk1_1 : w2.cell? ⟨g1, 1, none⟩ = some (.slice A0_1 l0_1.length c0_1) := (blk_cell BK1.out 1).trans rfl))
    go_ret
    exact ⟨rfl, HB.out⟩
  | true =>
    rw [if_pos rfl] at h
    obtain ⟨q, hq, h⟩ := Option.bind_eq_some_iff.mp h
    obtain rfl := Option.some.inj h
    have HQ := Aside0.mk hq
    clear h hq
    go_enter Try.func46, Try.ntmps46
    go_wp2_with (first
      | ((with_reducible refine gate_dst (N := 1) rfl ?_); refine box_event ?hg (N := 1) ?hd (cs := #[.int .i64 a0_0, .slice A0_1 l0_1.length c0_1]) (t := 49) ?hr ?_; (case hd => rfl); (case hg => rfl); (case hr => first | (go_simp; done) | (go_simp; rfl)); intro g1 hg w1 hbox hb; have nHB_ := Aside0.mk (below_step HB.out hb); clear HB; have HB := nHB_; clear nHB_; have BK1 := Aside0.mk hbox; clear hb hg hbox; have hk1_0 : w1.cell? ⟨g1, 0, none⟩ = some (.int .i64 a0_0) := (blk_cell BK1.out 0).trans rfl; have hk1_1 : w1.cell? ⟨g1, 1, none⟩ = some (.slice A0_1 l0_1.length c0_1) := (blk_cell BK1.out 1).trans rfl)
      | ((with_reducible refine gate_dst (N := 7) rfl ?_); refine goesL_ (some 7) rfl rfl Try.func42 (by kernel_rfl) rfl #[.agg #[.int .i64 a0_0, .slice A0_1 l0_1.length c0_1]] rfl (by (try simp only [List.map_toArray, List.map_cons, List.map_nil]); first | done | rfl | (simp only [List.length_drop, List.length_take]; rfl)) ?_; refine (impl_BookOk.calls k a0_0 _ _ l0_1 true _ (Kd.C_below HR.out HB.out) HC.out HT.out).mono ?_; rintro e w2 ⟨rfl, hb⟩; refine ⟨_, rfl, ?_⟩; clear hk1_0 hk1_1; have nHB_ := Aside0.mk (below_step HB.out hb); have nBK1_ := Aside0.mk (blk_below BK1.out hb); clear HB BK1; have HB := nHB_; have BK1 := nBK1_; clear nHB_ nBK1_; clear hb; have hk1_0 : w2.cell? ⟨g1, 0, none⟩ = some (.int .i64 a0_0) := (blk_cell BK1.out 0).trans rfl; have hk1_1 : w2.cell? ⟨g1, 1, none⟩ = some (.slice A0_1 l0_1.length c0_1) := (blk_cell BK1.out 1).trans rfl)
      | ((with_reducible refine gate_dst (N := 3) rfl ?_); refine box_event ?hg (N := 3) ?hd (cs := #[.int .i64 0]) (t := 3) ?hr ?_; (case hd => rfl); (case hg => rfl); (case hr => first | (go_simp; done) | (go_simp; rfl)); intro g3 hg w3 hbox hb; have GE3 := Aside0.mk (by rw [hg]; exact HB.out.size : w.heap.size ≤ g3); clear hk1_0 hk1_1; have nHB_ := Aside0.mk (below_step HB.out hb); have nBK1_ := Aside0.mk (blk_below BK1.out hb); clear HB BK1; have HB := nHB_; have BK1 := nBK1_; clear nHB_ nBK1_; have BK3 := Aside0.mk hbox; clear hb hg hbox; have hk1_0 : w3.cell? ⟨g1, 0, none⟩ = some (.int .i64 a0_0) := (blk_cell BK1.out 0).trans rfl; have hk1_1 : w3.cell? ⟨g1, 1, none⟩ = some (.slice A0_1 l0_1.length c0_1) := (blk_cell BK1.out 1).trans rfl; have hs3 : w3.cell? ⟨g3, 0, none⟩ = some (.int .i64 0) := (blk_cell BK3.out 0).trans rfl; have hf3 := blk_frozen BK3.out 0)
      | ((with_reducible refine gate_dst (N := 4) rfl ?_); refine box_event ?hg (N := 4) ?hd (cs := #[.bool false]) (t := 4) ?hr ?_; (case hd => rfl); (case hg => rfl); (case hr => first | (go_simp; done) | (go_simp; rfl)); intro g4 hg w4 hbox hb; have GE4 := Aside0.mk (by rw [hg]; exact HB.out.size : w.heap.size ≤ g4); clear hk1_0 hk1_1 hs3 hf3; have nHB_ := Aside0.mk (below_step HB.out hb); have nBK1_ := Aside0.mk (blk_below BK1.out hb); have nBK3_ := Aside0.mk (blk_below BK3.out hb); clear HB BK1 BK3; have HB := nHB_; have BK1 := nBK1_; have BK3 := nBK3_; clear nHB_ nBK1_ nBK3_; have BK4 := Aside0.mk hbox; clear hb hg hbox; have hk1_0 : w4.cell? ⟨g1, 0, none⟩ = some (.int .i64 a0_0) := (blk_cell BK1.out 0).trans rfl; have hk1_1 : w4.cell? ⟨g1, 1, none⟩ = some (.slice A0_1 l0_1.length c0_1) := (blk_cell BK1.out 1).trans rfl; have hs3 : w4.cell? ⟨g3, 0, none⟩ = some (.int .i64 0) := (blk_cell BK3.out 0).trans rfl; have hf3 := blk_frozen BK3.out 0; have hs4 : w4.cell? ⟨g4, 0, none⟩ = some (.bool false) := (blk_cell BK4.out 0).trans rfl; have hf4 := blk_frozen BK4.out 0)
      | ((with_reducible refine gate_store (t := 3) (p := 3) rfl ?_); refine store_event (t := 3) (p := 3) (v := ?vs3) (w1 := (w4.setCell ⟨g3, 0, none⟩ (.int .i64 0))) ?hg ?ho ?hn ?hr ?_; (case ho => rfl); (case hg => rfl); (case hn => rfl); (case hr => first | (go_simp; done) | (go_simp; rfl)); intro w5 hw; have n1_ := Aside0.mk (hw ▸ blkFarH BK1.out (blkNe BK1.out BK3.out (by decide)) (.int .i64 0)); have n4_ := Aside0.mk (hw ▸ blkFarH BK4.out (blkNe BK4.out BK3.out (by decide)) (.int .i64 0)); have nHB_ := Aside0.mk (hw ▸ below_set HB.out GE3.out : Below w.heap.size w w5); have n3_ := Aside0.mk (hw ▸ blk_put (cs' := #[.int .i64 0]) BK3.out 0 (.int .i64 0) rfl : w5.heap[g3]? = some (.cells #[.int .i64 0] 3 (0, 0))); clear hw HB BK1 BK4 BK3; have HB := nHB_; have BK1 := n1_; have BK4 := n4_; have BK3 := n3_; clear nHB_ n1_ n4_ n3_; clear hk1_0 hk1_1 hs3 hf3 hs4 hf4; have hs4 : w5.cell? ⟨g4, 0, none⟩ = some (.bool false) := (blk_cell BK4.out 0).trans rfl; have hf4 := blk_frozen BK4.out 0; have hk1_0 : w5.cell? ⟨g1, 0, none⟩ = some (.int .i64 a0_0) := (blk_cell BK1.out 0).trans rfl; have hk1_1 : w5.cell? ⟨g1, 1, none⟩ = some (.slice A0_1 l0_1.length c0_1) := (blk_cell BK1.out 1).trans rfl)
      | ((with_reducible refine gate_store (t := 4) (p := 4) rfl ?_); refine store_event (t := 4) (p := 4) (v := ?vs4) (w1 := (w5.setCell ⟨g4, 0, none⟩ (.bool true))) ?hg ?ho ?hn ?hr ?_; (case ho => rfl); (case hg => rfl); (case hn => rfl); (case hr => first | (go_simp; done) | (go_simp; rfl)); intro w6 hw; have n1_ := Aside0.mk (hw ▸ blkFarH BK1.out (blkNe BK1.out BK4.out (by decide)) (.bool true)); have n3_ := Aside0.mk (hw ▸ blkFarH BK3.out (blkNe BK3.out BK4.out (by decide)) (.bool true)); have nHB_ := Aside0.mk (hw ▸ below_set HB.out GE4.out : Below w.heap.size w w6); have n4_ := Aside0.mk (hw ▸ blk_put (cs' := #[.bool true]) BK4.out 0 (.bool true) rfl : w6.heap[g4]? = some (.cells #[.bool true] 4 (0, 0))); clear hw HB BK1 BK3 BK4; have HB := nHB_; have BK1 := n1_; have BK3 := n3_; have BK4 := n4_; clear nHB_ n1_ n3_ n4_; clear hk1_0 hk1_1 hs4 hf4; have hk1_0 : w6.cell? ⟨g1, 0, none⟩ = some (.int .i64 a0_0) := (blk_cell BK1.out 0).trans rfl; have hk1_1 : w6.cell? ⟨g1, 1, none⟩ = some (.slice A0_1 l0_1.length c0_1) := (blk_cell BK1.out 1).trans rfl)
      | ((with_reducible refine gate_dst (N := 5) rfl ?_); refine box_event ?hg (N := 5) ?hd (cs := #[.nilFunc]) (t := 108) ?hr ?_; (case hd => rfl); (case hg => rfl); (case hr => first | (go_simp; done) | (go_simp; rfl)); intro g5 hg w7 hbox hb; have GE5 := Aside0.mk (by rw [hg]; exact HB.out.size : w.heap.size ≤ g5); clear hk1_0 hk1_1; have nHB_ := Aside0.mk (below_step HB.out hb); have nBK1_ := Aside0.mk (blk_below BK1.out hb); have nBK3_ := Aside0.mk (blk_below BK3.out hb); have nBK4_ := Aside0.mk (blk_below BK4.out hb); clear HB BK1 BK3 BK4; have HB := nHB_; have BK1 := nBK1_; have BK3 := nBK3_; have BK4 := nBK4_; clear nHB_ nBK1_ nBK3_ nBK4_; have BK5 := Aside0.mk hbox; clear hb hg hbox; have hk1_0 : w7.cell? ⟨g1, 0, none⟩ = some (.int .i64 a0_0) := (blk_cell BK1.out 0).trans rfl; have hk1_1 : w7.cell? ⟨g1, 1, none⟩ = some (.slice A0_1 l0_1.length c0_1) := (blk_cell BK1.out 1).trans rfl; have hs5 : w7.cell? ⟨g5, 0, none⟩ = some .nilFunc := (blk_cell BK5.out 0).trans rfl; have hf5 := blk_frozen BK5.out 0)
      | ((with_reducible refine gate_store (t := 108) (p := 5) rfl ?_); refine store_event (t := 108) (p := 5) (v := ?vs5) (w1 := (w7.setCell ⟨g5, 0, none⟩ (.func (.func 98) #[] #[.pointer (some ⟨g1, 0, none⟩), .pointer (some ⟨g4, 0, none⟩), .pointer (some ⟨g3, 0, none⟩), .pointer (some ⟨g5, 0, none⟩)]))) ?hg ?ho ?hn ?hr ?_; (case ho => rfl); (case hg => rfl); (case hn => rfl); (case hr => exact func_store2 _ _ 5 9 rfl g5 w7 _ _ rfl rfl BK5.out); intro w8 hw; have n1_ := Aside0.mk (hw ▸ blkFarH BK1.out (blkNe BK1.out BK5.out (by decide)) (.func (.func 98) #[] #[.pointer (some ⟨g1, 0, none⟩), .pointer (some ⟨g4, 0, none⟩), .pointer (some ⟨g3, 0, none⟩), .pointer (some ⟨g5, 0, none⟩)])); have n3_ := Aside0.mk (hw ▸ blkFarH BK3.out (blkNe BK3.out BK5.out (by decide)) (.func (.func 98) #[] #[.pointer (some ⟨g1, 0, none⟩), .pointer (some ⟨g4, 0, none⟩), .pointer (some ⟨g3, 0, none⟩), .pointer (some ⟨g5, 0, none⟩)])); have n4_ := Aside0.mk (hw ▸ blkFarH BK4.out (blkNe BK4.out BK5.out (by decide)) (.func (.func 98) #[] #[.pointer (some ⟨g1, 0, none⟩), .pointer (some ⟨g4, 0, none⟩), .pointer (some ⟨g3, 0, none⟩), .pointer (some ⟨g5, 0, none⟩)])); have nHB_ := Aside0.mk (hw ▸ below_set HB.out GE5.out : Below w.heap.size w w8); have n5_ := Aside0.mk (hw ▸ blk_put (cs' := #[.func (.func 98) #[] #[.pointer (some ⟨g1, 0, none⟩), .pointer (some ⟨g4, 0, none⟩), .pointer (some ⟨g3, 0, none⟩), .pointer (some ⟨g5, 0, none⟩)]]) BK5.out 0 (.func (.func 98) #[] #[.pointer (some ⟨g1, 0, none⟩), .pointer (some ⟨g4, 0, none⟩), .pointer (some ⟨g3, 0, none⟩), .pointer (some ⟨g5, 0, none⟩)]) rfl : w8.heap[g5]? = some (.cells #[.func (.func 98) #[] #[.pointer (some ⟨g1, 0, none⟩), .pointer (some ⟨g4, 0, none⟩), .pointer (some ⟨g3, 0, none⟩), .pointer (some ⟨g5, 0, none⟩)]] 108 (0, 0))); clear hw HB BK1 BK3 BK4 BK5; have HB := nHB_; have BK1 := n1_; have BK3 := n3_; have BK4 := n4_; have BK5 := n5_; clear nHB_ n1_ n3_ n4_ n5_; have HV := Aside0.mk (show EState w g1 g3 g4 g5 a0_0 A0_1 c0_1 l0_1.length w8 0 true from ⟨HB.out, BK1.out, BK3.out, BK4.out, BK5.out, GE3.out, GE4.out⟩); clear hk1_0 hk1_1 hs5 hf5; have hk5 := HV.out.fncell; have hk1_0 : w8.cell? ⟨g1, 0, none⟩ = some (.int .i64 a0_0) := (blk_cell BK1.out 0).trans rfl; have hk1_1 : w8.cell? ⟨g1, 1, none⟩ = some (.slice A0_1 l0_1.length c0_1) := (blk_cell BK1.out 1).trans rfl)
      | (go_at_call 98; refine (HS.out g1 g3 g4 g5 a0_0 1 0 true q _ HV.out HQ.out).mono ?_; rintro e w11 ⟨v11, rfl, hv⟩; have HBB := Aside0.mk hv.below; have hk4 : w11.cell? ⟨g4, 0, none⟩ = some (.bool q.2) := (blk_cell hv.sam 0).trans rfl; clear hv hk5 hk1_0 hk1_1))
    go_ret
    exact ⟨rfl, HBB.out⟩

end Go.Proofs.Ytngjaajcdbodeaa.All

namespace Go.Proofs.Ytngjaajcdbodeaa.All
open Go.RowKit Go.Proofs.YtngjaajcdbodeaaW.PrintWords Go.Proofs.YtngjaajcdbodeaaW.PrintLast Go.Proofs.YtngjaajcdbodeaaW.PrintMore
attribute [local go_sem] max2_int min2_int max_two min_two max_three min_three max_four min_four   -- for this text's walks alone
set_option linter.unusedVariables false
set_option linter.unusedSimpArgs false

/-! ### laws_szEntryS: function 70 -/
def laws_szEntryS.f (l0 : List (S122)) (a1 : Int) : Option (Int) := if (wrap64 (a1 - (l0.length : Int))) < 0 then (some (-1)) else (some (wrap64 (a1 - (l0.length : Int))))
set_option maxHeartbeats 8000000 in
set_option maxRecDepth 100000 in
theorem laws_szEntryS.calls (A0 : Option Addr) (c0 : Nat) (l0 : List (S122)) (a1 : Int) (r : Int) (w : World) (hr0 : Kd.C k122 w A0 l0.length l0) (hc0 : l0.length ≤ c0) (h : laws_szEntryS.f l0 a1 = some r) :
    Calls Try.prog 70 #[.slice A0 l0.length c0, .int .i64 a1] w fun e w' => e = .returned (.int .i64 r) ∧ Drawn0 w w' := by
  have HR0 := Aside0.mk hr0
  have HC0 := Aside0.mk hc0
  clear hr0 hc0
  have H : (if (wrap64 (a1 - (l0.length : Int))) < 0 then (some (-1)) else (some (wrap64 (a1 - (l0.length : Int))))) = some r := h
  clear h
  by_cases c3 : (wrap64 (a1 - (l0.length : Int))) < 0
  · rw [if_pos c3] at H
    have c3b0 : decide ((wrap64 (a1 - (l0.length : Int))) < 0) = true := decide_eq_true c3
    clear c3
    obtain rfl := Option.some.inj H
    go_enter Try.func70, Try.ntmps70
    go_wp2
    go_ret
    exact ⟨by first | rfl | (simp; done) | (simp [*]; done), by repeat (first | exact Drawn0.refl _ | apply Drawn0.step)⟩
  · rw [if_neg c3] at H
    have c3b0 : decide ((wrap64 (a1 - (l0.length : Int))) < 0) = false := decide_eq_false c3
    clear c3
    obtain rfl := Option.some.inj H
    go_enter Try.func70, Try.ntmps70
    go_wp2
    go_ret
    exact ⟨by first | rfl | (simp; done) | (simp [*]; done), by repeat (first | exact Drawn0.refl _ | apply Drawn0.step)⟩

end Go.Proofs.Ytngjaajcdbodeaa.All

namespace Go.Proofs.Ytngjaajcdbodeaa.All
open Go.RowKit Go.Proofs.YtngjaajcdbodeaaW.PrintWords Go.Proofs.YtngjaajcdbodeaaW.PrintLast Go.Proofs.YtngjaajcdbodeaaW.PrintMore
attribute [local go_sem] max2_int min2_int max_two min_two max_three min_three max_four min_four   -- for this text's walks alone
set_option linter.unusedVariables false
set_option linter.unusedSimpArgs false

/-! ### laws_szNode: function 24 -/
def laws_szNode.f (a0_0 : Bool) (l0_1 : List (S122)) (a1 : Int) : Option (Int) := (laws_szEntryS.f l0_1 a1).bind fun t235 => (if t235 < 0 then (some (-1)) else (some t235))
set_option maxHeartbeats 8000000 in
set_option maxRecDepth 100000 in
theorem laws_szNode.calls (a0_0 : Bool) (A0_1 : Option Addr) (c0_1 : Nat) (l0_1 : List (S122)) (a1 : Int) (r : Int) (w : World) (hr0_1 : Kd.C k122 w A0_1 l0_1.length l0_1) (hc0_1 : l0_1.length ≤ c0_1) (h : laws_szNode.f a0_0 l0_1 a1 = some r) :
    Calls Try.prog 24 #[.agg #[.bool a0_0, .slice A0_1 l0_1.length c0_1], .int .i64 a1] w fun e w' => e = .returned (.int .i64 r) ∧ Below w.heap.size w w' := by
  have hu44 := Try.underlying44
  have HR0_1 := Aside0.mk hr0_1
  have HC0_1 := Aside0.mk hc0_1
  clear hr0_1 hc0_1
  have HB := Aside0.mk (Below.refl w.heap.size w)
  have H : ((laws_szEntryS.f l0_1 a1).bind fun t235 => (if t235 < 0 then (some (-1)) else (some t235))) = some r := h
  clear h
  replace H := Option.bind_eq_some_iff.mp H
  obtain ⟨t235, A30, H⟩ := H
  replace H : (if t235 < 0 then (some (-1)) else (some t235)) = some r := H
  have A3 := Aside0.mk A30
  clear A30
  by_cases c4 : t235 < 0
  · rw [if_pos c4] at H
    have c4b0 : decide (t235 < 0) = true := decide_eq_true c4
    clear c4
    obtain rfl := Option.some.inj H
    go_enter Try.func24, Try.ntmps24
    go_wp2_with (first | ((with_reducible refine gate_dst (N := 2) rfl ?_); refine box_event ?hg (N := 2) ?hd (cs := #[.bool a0_0, .slice A0_1 l0_1.length c0_1]) (t := 44) ?hr ?_; (case hd => rfl); (case hg => rfl); (case hr => first | (go_simp; done) | (go_simp; rfl)); intro gb234 hg w5 hbox hb; have n0_ := Aside0.mk (below_step (by repeat (first | (with_reducible first | exact HB.out | apply below_alloc | apply pw_below_drewN | apply below_drew1) | exact HB.out)) hb); have n1_ := Aside0.mk (hbox); have n2_ := Aside0.mk ((by rw [hg]; exact (below_size (by repeat (first | (with_reducible first | exact HB.out | apply below_alloc | apply pw_below_drewN | apply below_drew1) | exact HB.out))) : w.heap.size ≤ gb234)); have n3_ := Aside0.mk ((by rw [hg]; exact (below_size (by repeat (first | (with_reducible first | exact HB.out | apply below_alloc | apply pw_below_drewN | apply below_drew1) | exact HB.out))) : w.heap.size ≤ gb234)); clear HB; have HB := n0_; have BK234 := n1_; have GW234 := n2_; have GE234 := n3_; clear n0_ n1_ n2_ n3_; clear hb hbox hg; have hcz6_0 : w5.cell? ⟨gb234, 0, none⟩ = some (.bool a0_0) := (blk_cell BK234.out 0).trans rfl; have hcz6_1 : w5.cell? ⟨gb234, 1, none⟩ = some (.slice A0_1 l0_1.length c0_1) := (blk_cell BK234.out 1).trans rfl; have hfz6_0 := blk_frozen BK234.out 0; have hfz6_1 := blk_frozen BK234.out 1) | ((with_reducible refine gate_callee (f := 70) rfl ?_); refine goesL_ (some 8) rfl rfl Try.func70 (by kernel_rfl) rfl #[.slice A0_1 l0_1.length c0_1, .int .i64 a1] rfl (by (try simp only [List.map_toArray, List.map_cons, List.map_nil]); first | done | rfl | (simp only [List.length_drop, List.length_take]; rfl)) ?_; (with_reducible refine (laws_szEntryS.calls _ _ l0_1 a1 t235 _ ?side1 ?side2 A3.out).mono ?_); (case side1 => repeat (first | exact (Kd.C_below HR0_1.out HB.out) | (with_reducible refine Kd.C_alloc ?_ _) | (with_reducible refine Kd.C_drewN ?_ _) | (with_reducible refine Kd.C_drew ?_))); (case side2 => exact HC0_1.out); rintro e w' ⟨rfl, ⟨nd, rfl⟩⟩; refine ⟨_, rfl, ?_⟩))
    go_ret
    exact ⟨by first | rfl | (simp [errW_none, errW_some] <;> rfl) | (simp [*, errW_none, errW_some] <;> rfl), by repeat (first | (with_reducible first | exact HB.out | apply below_alloc | apply pw_below_drewN | apply below_drew1 | refine below_set ?_ GE234.out) | exact HB.out)⟩
  · rw [if_neg c4] at H
    have c4b0 : decide (t235 < 0) = false := decide_eq_false c4
    clear c4
    obtain rfl := Option.some.inj H
    go_enter Try.func24, Try.ntmps24
    go_wp2_with (first | ((with_reducible refine gate_dst (N := 2) rfl ?_); refine box_event ?hg (N := 2) ?hd (cs := #[.bool a0_0, .slice A0_1 l0_1.length c0_1]) (t := 44) ?hr ?_; (case hd => rfl); (case hg => rfl); (case hr => first | (go_simp; done) | (go_simp; rfl)); intro gb234 hg w7 hbox hb; have n0_ := Aside0.mk (below_step (by repeat (first | (with_reducible first | exact HB.out | apply below_alloc | apply pw_below_drewN | apply below_drew1) | exact HB.out)) hb); have n1_ := Aside0.mk (hbox); have n2_ := Aside0.mk ((by rw [hg]; exact (below_size (by repeat (first | (with_reducible first | exact HB.out | apply below_alloc | apply pw_below_drewN | apply below_drew1) | exact HB.out))) : w.heap.size ≤ gb234)); have n3_ := Aside0.mk ((by rw [hg]; exact (below_size (by repeat (first | (with_reducible first | exact HB.out | apply below_alloc | apply pw_below_drewN | apply below_drew1) | exact HB.out))) : w.heap.size ≤ gb234)); clear HB; have HB := n0_; have BK234 := n1_; have GW234 := n2_; have GE234 := n3_; clear n0_ n1_ n2_ n3_; clear hb hbox hg; have hcz8_0 : w7.cell? ⟨gb234, 0, none⟩ = some (.bool a0_0) := (blk_cell BK234.out 0).trans rfl; have hcz8_1 : w7.cell? ⟨gb234, 1, none⟩ = some (.slice A0_1 l0_1.length c0_1) := (blk_cell BK234.out 1).trans rfl; have hfz8_0 := blk_frozen BK234.out 0; have hfz8_1 := blk_frozen BK234.out 1) | ((with_reducible refine gate_callee (f := 70) rfl ?_); refine goesL_ (some 8) rfl rfl Try.func70 (by kernel_rfl) rfl #[.slice A0_1 l0_1.length c0_1, .int .i64 a1] rfl (by (try simp only [List.map_toArray, List.map_cons, List.map_nil]); first | done | rfl | (simp only [List.length_drop, List.length_take]; rfl)) ?_; (with_reducible refine (laws_szEntryS.calls _ _ l0_1 a1 t235 _ ?side1 ?side2 A3.out).mono ?_); (case side1 => repeat (first | exact (Kd.C_below HR0_1.out HB.out) | (with_reducible refine Kd.C_alloc ?_ _) | (with_reducible refine Kd.C_drewN ?_ _) | (with_reducible refine Kd.C_drew ?_))); (case side2 => exact HC0_1.out); rintro e w' ⟨rfl, ⟨nd, rfl⟩⟩; refine ⟨_, rfl, ?_⟩))
    go_ret
    exact ⟨by first | rfl | (simp [errW_none, errW_some] <;> rfl) | (simp [*, errW_none, errW_some] <;> rfl), by repeat (first | (with_reducible first | exact HB.out | apply below_alloc | apply pw_below_drewN | apply below_drew1 | refine below_set ?_ GE234.out) | exact HB.out)⟩

end Go.Proofs.Ytngjaajcdbodeaa.All

namespace Go.Proofs.Ytngjaajcdbodeaa.All
open Go.RowKit Go.Proofs.YtngjaajcdbodeaaW.PrintWords Go.Proofs.YtngjaajcdbodeaaW.PrintLast Go.Proofs.YtngjaajcdbodeaaW.PrintMore
attribute [local go_sem] max2_int min2_int max_two min_two max_three min_three max_four min_four   -- for this text's walks alone
set_option linter.unusedVariables false
set_option linter.unusedSimpArgs false

/-! ### laws_szPage: function 117 -/
def laws_szPage.f (a0_0 : Bool) (a0_1 : Bool) (l0_2 : List (S122)) (a1 : Int) : Option (Int) := (laws_szNode.f a0_1 l0_2 a1).bind fun t237 => (if t237 < 0 then (some (-1)) else (some t237))
set_option maxHeartbeats 8000000 in
set_option maxRecDepth 100000 in
theorem laws_szPage.calls (a0_0 : Bool) (a0_1 : Bool) (A0_2 : Option Addr) (c0_2 : Nat) (l0_2 : List (S122)) (a1 : Int) (r : Int) (w : World) (hr0_2 : Kd.C k122 w A0_2 l0_2.length l0_2) (hc0_2 : l0_2.length ≤ c0_2) (h : laws_szPage.f a0_0 a0_1 l0_2 a1 = some r) :
    Calls Try.prog 117 #[.agg #[.bool a0_0, .bool a0_1, .slice A0_2 l0_2.length c0_2], .int .i64 a1] w fun e w' => e = .returned (.int .i64 r) ∧ Below w.heap.size w w' := by
  have hu118 := Try.underlying118
  have hu44 := Try.underlying44
  have HR0_2 := Aside0.mk hr0_2
  have HC0_2 := Aside0.mk hc0_2
  clear hr0_2 hc0_2
  have HB := Aside0.mk (Below.refl w.heap.size w)
  have H : ((laws_szNode.f a0_1 l0_2 a1).bind fun t237 => (if t237 < 0 then (some (-1)) else (some t237))) = some r := h
  clear h
  replace H := Option.bind_eq_some_iff.mp H
  obtain ⟨t237, A30, H⟩ := H
  replace H : (if t237 < 0 then (some (-1)) else (some t237)) = some r := H
  have A3 := Aside0.mk A30
  clear A30
  by_cases c4 : t237 < 0
  · rw [if_pos c4] at H
    have c4b0 : decide (t237 < 0) = true := decide_eq_true c4
    clear c4
    obtain rfl := Option.some.inj H
    go_enter Try.func117, Try.ntmps117
    go_wp2_with (first | ((with_reducible refine gate_dst (N := 2) rfl ?_); refine box_event ?hg (N := 2) ?hd (cs := #[.bool a0_0, .bool a0_1, .slice A0_2 l0_2.length c0_2]) (t := 118) ?hr ?_; (case hd => rfl); (case hg => rfl); (case hr => first | (go_simp; done) | (go_simp; rfl)); intro gb236 hg w5 hbox hb; have n0_ := Aside0.mk (below_step (by repeat (first | (with_reducible first | exact HB.out | apply below_alloc | apply pw_below_drewN | apply below_drew1) | exact HB.out)) hb); have n1_ := Aside0.mk (hbox); have n2_ := Aside0.mk ((by rw [hg]; exact (below_size (by repeat (first | (with_reducible first | exact HB.out | apply below_alloc | apply pw_below_drewN | apply below_drew1) | exact HB.out))) : w.heap.size ≤ gb236)); have n3_ := Aside0.mk ((by rw [hg]; exact (below_size (by repeat (first | (with_reducible first | exact HB.out | apply below_alloc | apply pw_below_drewN | apply below_drew1) | exact HB.out))) : w.heap.size ≤ gb236)); clear HB; have HB := n0_; have BK236 := n1_; have GW236 := n2_; have GE236 := n3_; clear n0_ n1_ n2_ n3_; clear hb hbox hg; have hcz6_0 : w5.cell? ⟨gb236, 0, none⟩ = some (.bool a0_0) := (blk_cell BK236.out 0).trans rfl; have hcz6_1 : w5.cell? ⟨gb236, 1, none⟩ = some (.bool a0_1) := (blk_cell BK236.out 1).trans rfl; have hcz6_2 : w5.cell? ⟨gb236, 2, none⟩ = some (.slice A0_2 l0_2.length c0_2) := (blk_cell BK236.out 2).trans rfl; have hfz6_0 := blk_frozen BK236.out 0; have hfz6_1 := blk_frozen BK236.out 1; have hfz6_2 := blk_frozen BK236.out 2) | ((with_reducible refine gate_callee (f := 24) rfl ?_); refine goesL_ (some 8) rfl rfl Try.func24 (by kernel_rfl) rfl #[.agg #[.bool a0_1, .slice A0_2 l0_2.length c0_2], .int .i64 a1] rfl (by (try simp only [List.map_toArray, List.map_cons, List.map_nil]); first | done | rfl | (simp only [List.length_drop, List.length_take]; rfl)) ?_; (with_reducible refine (laws_szNode.calls a0_1 _ _ l0_2 a1 t237 _ ?side1 ?side2 A3.out).mono ?_); (case side1 => repeat (first | exact (Kd.C_below HR0_2.out HB.out) | (with_reducible refine Kd.C_alloc ?_ _) | (with_reducible refine Kd.C_drewN ?_ _) | (with_reducible refine Kd.C_drew ?_))); (case side2 => exact HC0_2.out); rintro e w7 ⟨rfl, hb⟩; refine ⟨_, rfl, ?_⟩; have n0_ := Aside0.mk (blk_below (g := gb236) (o := .cells #[.bool a0_0, .bool a0_1, .slice A0_2 l0_2.length c0_2] 118 (0, 0)) (by (with_reducible repeat (first | refine blk_drewN ?_ _ | refine blk_drew ?_ | refine blk_alloc ?_ _)); exact BK236.out) hb); have n1_ := Aside0.mk (below_step (by repeat (first | (with_reducible first | exact HB.out | apply below_alloc | apply pw_below_drewN | apply below_drew1 | refine below_set ?_ GE236.out) | exact HB.out)) hb); clear BK236; clear HB; have BK236 := n0_; have HB := n1_; clear n0_ n1_; (try clear hb); (try clear hb2); (try clear hk); (try clear hi)))
    go_ret
    exact ⟨by first | rfl | (simp [errW_none, errW_some] <;> rfl) | (simp [*, errW_none, errW_some] <;> rfl), by repeat (first | (with_reducible first | exact HB.out | apply below_alloc | apply pw_below_drewN | apply below_drew1 | refine below_set ?_ GE236.out) | exact HB.out)⟩
  · rw [if_neg c4] at H
    have c4b0 : decide (t237 < 0) = false := decide_eq_false c4
    clear c4
    obtain rfl := Option.some.inj H
    go_enter Try.func117, Try.ntmps117
    go_wp2_with (first | ((with_reducible refine gate_dst (N := 2) rfl ?_); refine box_event ?hg (N := 2) ?hd (cs := #[.bool a0_0, .bool a0_1, .slice A0_2 l0_2.length c0_2]) (t := 118) ?hr ?_; (case hd => rfl); (case hg => rfl); (case hr => first | (go_simp; done) | (go_simp; rfl)); intro gb236 hg w8 hbox hb; have n0_ := Aside0.mk (below_step (by repeat (first | (with_reducible first | exact HB.out | apply below_alloc | apply pw_below_drewN | apply below_drew1) | exact HB.out)) hb); have n1_ := Aside0.mk (hbox); have n2_ := Aside0.mk ((by rw [hg]; exact (below_size (by repeat (first | (with_reducible first | exact HB.out | apply below_alloc | apply pw_below_drewN | apply below_drew1) | exact HB.out))) : w.heap.size ≤ gb236)); have n3_ := Aside0.mk ((by rw [hg]; exact (below_size (by repeat (first | (with_reducible first | exact HB.out | apply below_alloc | apply pw_below_drewN | apply below_drew1) | exact HB.out))) : w.heap.size ≤ gb236)); clear HB; have HB := n0_; have BK236 := n1_; have GW236 := n2_; have GE236 := n3_; clear n0_ n1_ n2_ n3_; clear hb hbox hg; have hcz9_0 : w8.cell? ⟨gb236, 0, none⟩ = some (.bool a0_0) := (blk_cell BK236.out 0).trans rfl; have hcz9_1 : w8.cell? ⟨gb236, 1, none⟩ = some (.bool a0_1) := (blk_cell BK236.out 1).trans rfl; have hcz9_2 : w8.cell? ⟨gb236, 2, none⟩ = some (.slice A0_2 l0_2.length c0_2) := (blk_cell BK236.out 2).trans rfl; have hfz9_0 := blk_frozen BK236.out 0; have hfz9_1 := blk_frozen BK236.out 1; have hfz9_2 := blk_frozen BK236.out 2) | ((with_reducible refine gate_callee (f := 24) rfl ?_); refine goesL_ (some 8) rfl rfl Try.func24 (by kernel_rfl) rfl #[.agg #[.bool a0_1, .slice A0_2 l0_2.length c0_2], .int .i64 a1] rfl (by (try simp only [List.map_toArray, List.map_cons, List.map_nil]); first | done | rfl | (simp only [List.length_drop, List.length_take]; rfl)) ?_; (with_reducible refine (laws_szNode.calls a0_1 _ _ l0_2 a1 t237 _ ?side1 ?side2 A3.out).mono ?_); (case side1 => repeat (first | exact (Kd.C_below HR0_2.out HB.out) | (with_reducible refine Kd.C_alloc ?_ _) | (with_reducible refine Kd.C_drewN ?_ _) | (with_reducible refine Kd.C_drew ?_))); (case side2 => exact HC0_2.out); rintro e w10 ⟨rfl, hb⟩; refine ⟨_, rfl, ?_⟩; have n0_ := Aside0.mk (blk_below (g := gb236) (o := .cells #[.bool a0_0, .bool a0_1, .slice A0_2 l0_2.length c0_2] 118 (0, 0)) (by (with_reducible repeat (first | refine blk_drewN ?_ _ | refine blk_drew ?_ | refine blk_alloc ?_ _)); exact BK236.out) hb); have n1_ := Aside0.mk (below_step (by repeat (first | (with_reducible first | exact HB.out | apply below_alloc | apply pw_below_drewN | apply below_drew1 | refine below_set ?_ GE236.out) | exact HB.out)) hb); clear BK236; clear HB; have BK236 := n0_; have HB := n1_; clear n0_ n1_; (try clear hb); (try clear hb2); (try clear hk); (try clear hi)))
    go_ret
    exact ⟨by first | rfl | (simp [errW_none, errW_some] <;> rfl) | (simp [*, errW_none, errW_some] <;> rfl), by repeat (first | (with_reducible first | exact HB.out | apply below_alloc | apply pw_below_drewN | apply below_drew1 | refine below_set ?_ GE236.out) | exact HB.out)⟩

end Go.Proofs.Ytngjaajcdbodeaa.All

namespace Go.Proofs.Ytngjaajcdbodeaa.All
open Go.RowKit Go.Proofs.YtngjaajcdbodeaaW.PrintWords Go.Proofs.YtngjaajcdbodeaaW.PrintLast Go.Proofs.YtngjaajcdbodeaaW.PrintMore
attribute [local go_sem] max2_int min2_int max_two min_two max_three min_three max_four min_four   -- for this text's walks alone
set_option linter.unusedVariables false
set_option linter.unusedSimpArgs false

/-! ### laws_szPageS: function 69 -/
def laws_szPageS.l0 : Nat → List (S118) → Int → Int → Option (Int)
  | 0, _, _, _ => none
  | k + 1, x0, x1, x5 => if x5 < (x0.length : Int) then (if 0 ≤ x5 then ((laws_szPage.f ((rd_T118 x0 x5).f0) ((rd_T118 x0 x5).f1.f0) ((rd_T118 x0 x5).f1.f1) x1).bind fun t239 => (if t239 < 0 then (some (-1)) else (laws_szPageS.l0 k x0 t239 (wrap64 (x5 + 1))))) else (none)) else (some x1)
def laws_szPageS.f (k : Nat) (l0 : List (S118)) (a1 : Int) : Option (Int) := if (wrap64 (a1 - (l0.length : Int))) < 0 then (some (-1)) else (laws_szPageS.l0 k l0 (wrap64 (a1 - (l0.length : Int))) 0)
theorem laws_szPageS.mono_l : ∀ k, (∀ y0 y1 y2, LeO (laws_szPageS.l0 k y0 y1 y2) (laws_szPageS.l0 (k + 1) y0 y1 y2))
  | 0 => fun _ _ _ r h => by simp [laws_szPageS.l0] at h
  | k + 1 => by
    have ih0 := laws_szPageS.mono_l k
    · intro y0 y1 y2
      unfold laws_szPageS.l0
      repeat' first
      | (with_reducible exact ih0 _ _ _)
      | (with_reducible exact LeO.refl _)
      | (with_reducible exact LeO.none _)
      | (with_reducible refine LeO.ite ?_ ?_)
      | (with_reducible refine LeO.bind ?_ (fun _ => ?_))
      | exact ih0 _ _ _
      | exact LeO.none _
      | refine LeO.ite ?_ ?_
      | refine LeO.bind ?_ (fun _ => ?_)
theorem laws_szPageS.mono : ∀ a0 a1 k, LeO (laws_szPageS.f k a0 a1) (laws_szPageS.f (k + 1) a0 a1) := by
  intro a0 a1 k
  have ih0 := laws_szPageS.mono_l k
  unfold laws_szPageS.f
  repeat' first
      | (with_reducible exact ih0 _ _ _)
      | (with_reducible exact LeO.refl _)
      | (with_reducible exact LeO.none _)
      | (with_reducible refine LeO.ite ?_ ?_)
      | (with_reducible refine LeO.bind ?_ (fun _ => ?_))
      | exact ih0 _ _ _
      | exact LeO.none _
      | refine LeO.ite ?_ ?_
      | refine LeO.bind ?_ (fun _ => ?_)
set_option maxHeartbeats 8000000 in
set_option maxRecDepth 100000 in
theorem laws_szPageS.calls (k : Nat) (A0 : Option Addr) (c0 : Nat) (l0 : List (S118)) (a1 : Int) (r : Int) (w : World) (hr0 : Kd.C k118 w A0 l0.length l0) (hc0 : l0.length ≤ c0) (h : laws_szPageS.f k l0 a1 = some r) :
    Calls Try.prog 69 #[.slice A0 l0.length c0, .int .i64 a1] w fun e w' => e = .returned (.int .i64 r) ∧ Below w.heap.size w w' := by
  have hu118 := Try.underlying118
  have HR0 := Aside0.mk hr0
  have HC0 := Aside0.mk hc0
  clear hr0 hc0
  have HB := Aside0.mk (Below.refl w.heap.size w)
  have H : (if (wrap64 (a1 - (l0.length : Int))) < 0 then (some (-1)) else (laws_szPageS.l0 k l0 (wrap64 (a1 - (l0.length : Int))) 0)) = some r := h
  clear h
  by_cases c3 : (wrap64 (a1 - (l0.length : Int))) < 0
  · rw [if_pos c3] at H
    have c3b0 : decide ((wrap64 (a1 - (l0.length : Int))) < 0) = true := decide_eq_true c3
    clear c3
    obtain rfl := Option.some.inj H
    go_enter Try.func69, Try.ntmps69
    go_wp2
    go_ret
    exact ⟨by first | rfl | (simp [errW_none, errW_some] <;> rfl) | (simp [*, errW_none, errW_some] <;> rfl), by repeat (first | (with_reducible first | exact HB.out | apply below_alloc | apply pw_below_drewN | apply below_drew1) | exact HB.out)⟩
  · rw [if_neg c3] at H
    have c3b0 : decide ((wrap64 (a1 - (l0.length : Int))) < 0) = false := decide_eq_false c3
    clear c3
    have H' := Aside0.mk H
    clear H
    go_enter Try.func69, Try.ntmps69
    go_wp2
    go_loopg [1, 5] k (fun kq v1 v5 w' => ∃ (x1_1 : Int) (x5_1 : Int), v1 = .int .i64 x1_1 ∧ v5 = .int .i64 x5_1 ∧ Aside0 (laws_szPageS.l0 kq l0 x1_1 x5_1 = some r) ∧ Aside0 (kq ≤ k) ∧ Aside0 (Below w.heap.size w w'))
    case atStart => exact ⟨(wrap64 (a1 - (l0.length : Int))), (0), (by first | rfl | (simp; done) | (simp [*]; done)), (by first | rfl | (simp; done) | (simp [*]; done)), H', ⟨Nat.le_refl _⟩, ⟨by repeat (first | (with_reducible first | exact HB.out | apply below_alloc | apply pw_below_drewN | apply below_drew1) | exact HB.out)⟩⟩
    case round =>
      clear H'
      try clear p2
      try clear c3
      try clear c3b0
      obtain ⟨x1_1, x5_1, rfl, rfl, HA, HK1, HB⟩ := hrel
      cases gk with
      | zero => exact absurd HA.out (by simp [laws_szPageS.l0])
      | succ k1 =>
        have H := HA.out
        clear HA
        simp only [laws_szPageS.l0] at H
        by_cases c4 : x5_1 < (l0.length : Int)
        · rw [if_pos c4] at H
          have c4b0 : decide (x5_1 < (l0.length : Int)) = true := decide_eq_true c4
          clear c4
          by_cases c5 : 0 ≤ x5_1
          · rw [if_pos c5] at H
            have c5b0 : decide (0 ≤ x5_1) = true := decide_eq_true c5
            clear c5
            replace H := Option.bind_eq_some_iff.mp H
            obtain ⟨t239, A60, H⟩ := H
            replace H : (if t239 < 0 then (some (-1)) else (laws_szPageS.l0 k1 l0 t239 (wrap64 (x5_1 + 1)))) = some r := H
            have A6 := Aside0.mk A60
            clear A60
            by_cases c7 : t239 < 0
            · rw [if_pos c7] at H
              have c7b0 : decide (t239 < 0) = true := decide_eq_true c7
              clear c7
              obtain rfl := Option.some.inj H
              have p238 : 0 ≤ (x5_1 : Int) := of_decide_eq_true (by first | (with_reducible assumption) | assumption)
              have q238 : x5_1 < (l0.length : Int) := of_decide_eq_true (by first | (with_reducible assumption) | assumption)
              obtain ⟨ad238, A238_2, c238_2, e238, hx238_0, hx238_1, hx238_2, hl238_2, hi238_2⟩ := at_T118 HR0.out x5_1 p238 q238
              cases e238
              replace hx238_0 := (HB.out.cell (World.block_lt_of_cell? w _ hx238_0)).trans hx238_0
              replace hx238_1 := (HB.out.cell (World.block_lt_of_cell? w _ hx238_1)).trans hx238_1
              replace hx238_2 := (HB.out.cell (World.block_lt_of_cell? w _ hx238_2)).trans hx238_2
              have HR238_2 := Aside0.mk hi238_2
              have HC238_2 := Aside0.mk hl238_2
              clear hi238_2 hl238_2
              replace p238 := eq_true p238
              replace q238 := eq_true q238
              go_wp2_with (first | ((with_reducible refine gate_callee (f := 117) rfl ?_); refine goesL_ (some 23) rfl rfl Try.func117 (by kernel_rfl) rfl #[.agg #[.bool ((rd_T118 l0 x5_1).f0), .bool ((rd_T118 l0 x5_1).f1.f0), .slice A238_2 ((rd_T118 l0 x5_1).f1.f1).length c238_2], .int .i64 x1_1] rfl (by (try simp only [List.map_toArray, List.map_cons, List.map_nil]); first | done | rfl | (simp only [List.length_drop, List.length_take]; rfl)) ?_; (with_reducible refine (laws_szPage.calls ((rd_T118 l0 x5_1).f0) ((rd_T118 l0 x5_1).f1.f0) _ _ ((rd_T118 l0 x5_1).f1.f1) x1_1 t239 _ ?side1 ?side2 A6.out).mono ?_); (case side1 => repeat (first | exact (Kd.C_below HR238_2.out HB.out) | (with_reducible refine Kd.C_alloc ?_ _) | (with_reducible refine Kd.C_drewN ?_ _) | (with_reducible refine Kd.C_drew ?_))); (case side2 => exact HC238_2.out); rintro e w8 ⟨rfl, hb⟩; refine ⟨_, rfl, ?_⟩; have n0_ := Aside0.mk (below_step (by repeat (first | (with_reducible first | exact HB.out | apply below_alloc | apply pw_below_drewN | apply below_drew1) | exact HB.out)) hb); clear HB; have HB := n0_; clear n0_; (try clear hb); (try clear hb2); (try clear hk); (try clear hi)))
              go_ret
              exact ⟨by first | rfl | (simp [errW_none, errW_some] <;> rfl) | (simp [*, errW_none, errW_some] <;> rfl), by repeat (first | (with_reducible first | exact HB.out | apply below_alloc | apply pw_below_drewN | apply below_drew1) | exact HB.out)⟩
            · rw [if_neg c7] at H
              have c7b0 : decide (t239 < 0) = false := decide_eq_false c7
              clear c7
              have H' := Aside0.mk H
              clear H
              have p238 : 0 ≤ (x5_1 : Int) := of_decide_eq_true (by first | (with_reducible assumption) | assumption)
              have q238 : x5_1 < (l0.length : Int) := of_decide_eq_true (by first | (with_reducible assumption) | assumption)
              obtain ⟨ad238, A238_2, c238_2, e238, hx238_0, hx238_1, hx238_2, hl238_2, hi238_2⟩ := at_T118 HR0.out x5_1 p238 q238
              cases e238
              replace hx238_0 := (HB.out.cell (World.block_lt_of_cell? w _ hx238_0)).trans hx238_0
              replace hx238_1 := (HB.out.cell (World.block_lt_of_cell? w _ hx238_1)).trans hx238_1
              replace hx238_2 := (HB.out.cell (World.block_lt_of_cell? w _ hx238_2)).trans hx238_2
              have HR238_2 := Aside0.mk hi238_2
              have HC238_2 := Aside0.mk hl238_2
              clear hi238_2 hl238_2
              replace p238 := eq_true p238
              replace q238 := eq_true q238
              go_wp2_with (first | ((with_reducible refine gate_callee (f := 117) rfl ?_); refine goesL_ (some 23) rfl rfl Try.func117 (by kernel_rfl) rfl #[.agg #[.bool ((rd_T118 l0 x5_1).f0), .bool ((rd_T118 l0 x5_1).f1.f0), .slice A238_2 ((rd_T118 l0 x5_1).f1.f1).length c238_2], .int .i64 x1_1] rfl (by (try simp only [List.map_toArray, List.map_cons, List.map_nil]); first | done | rfl | (simp only [List.length_drop, List.length_take]; rfl)) ?_; (with_reducible refine (laws_szPage.calls ((rd_T118 l0 x5_1).f0) ((rd_T118 l0 x5_1).f1.f0) _ _ ((rd_T118 l0 x5_1).f1.f1) x1_1 t239 _ ?side1 ?side2 A6.out).mono ?_); (case side1 => repeat (first | exact (Kd.C_below HR238_2.out HB.out) | (with_reducible refine Kd.C_alloc ?_ _) | (with_reducible refine Kd.C_drewN ?_ _) | (with_reducible refine Kd.C_drew ?_))); (case side2 => exact HC238_2.out); rintro e w9 ⟨rfl, hb⟩; refine ⟨_, rfl, ?_⟩; have n0_ := Aside0.mk (below_step (by repeat (first | (with_reducible first | exact HB.out | apply below_alloc | apply pw_below_drewN | apply below_drew1) | exact HB.out)) hb); clear HB; have HB := n0_; clear n0_; (try clear hb); (try clear hb2); (try clear hk); (try clear hi)))
              go_roundg k1
              case measure => have := HK1.out; omega
              case rel => exact ⟨(t239), (wrap64 (x5_1 + 1)), (by first | rfl | (simp; done) | (simp [*]; done)), (by first | rfl | (simp; done) | (simp [*]; done)), H', ⟨by have := HK1.out; omega⟩, ⟨by repeat (first | (with_reducible first | exact HB.out | apply below_alloc | apply pw_below_drewN | apply below_drew1) | exact HB.out)⟩⟩
          · rw [if_neg c5] at H
            exact absurd H (by simp)
        · rw [if_neg c4] at H
          have c4b0 : decide (x5_1 < (l0.length : Int)) = false := decide_eq_false c4
          clear c4
          obtain rfl := Option.some.inj H
          go_wp2
          go_ret
          exact ⟨by first | rfl | (simp [errW_none, errW_some] <;> rfl) | (simp [*, errW_none, errW_some] <;> rfl), by repeat (first | (with_reducible first | exact HB.out | apply below_alloc | apply pw_below_drewN | apply below_drew1) | exact HB.out)⟩

end Go.Proofs.Ytngjaajcdbodeaa.All

namespace Go.Proofs.Ytngjaajcdbodeaa.All
open Go.RowKit Go.Proofs.YtngjaajcdbodeaaW.PrintWords Go.Proofs.YtngjaajcdbodeaaW.PrintLast Go.Proofs.YtngjaajcdbodeaaW.PrintMore
attribute [local go_sem] max2_int min2_int max_two min_two max_three min_three max_four min_four   -- for this text's walks alone
set_option linter.unusedVariables false
set_option linter.unusedSimpArgs false

/-! ### laws_szBook: function 23 -/
def laws_szBook.f (k : Nat) (a0_0 : Int) (l0_1 : List (S118)) (a1 : Int) : Option (Int) := (laws_szPageS.f k l0_1 a1).bind fun t241 => (if t241 < 0 then (some (-1)) else (some t241))
theorem laws_szBook.mono : ∀ a0 a1 a2 k, LeO (laws_szBook.f k a0 a1 a2) (laws_szBook.f (k + 1) a0 a1 a2) := by
  intro a0 a1 a2 k
  unfold laws_szBook.f
  repeat' first
      | (with_reducible exact laws_szPageS.mono _ _ _)
      | (with_reducible exact LeO.refl _)
      | (with_reducible exact LeO.none _)
      | (with_reducible refine LeO.ite ?_ ?_)
      | (with_reducible refine LeO.bind ?_ (fun _ => ?_))
      | exact laws_szPageS.mono _ _ _
      | exact LeO.none _
      | refine LeO.ite ?_ ?_
      | refine LeO.bind ?_ (fun _ => ?_)
set_option maxHeartbeats 8000000 in
set_option maxRecDepth 100000 in
theorem laws_szBook.calls (k : Nat) (a0_0 : Int) (A0_1 : Option Addr) (c0_1 : Nat) (l0_1 : List (S118)) (a1 : Int) (r : Int) (w : World) (hr0_1 : Kd.C k118 w A0_1 l0_1.length l0_1) (hc0_1 : l0_1.length ≤ c0_1) (h : laws_szBook.f k a0_0 l0_1 a1 = some r) :
    Calls Try.prog 23 #[.agg #[.int .i64 a0_0, .slice A0_1 l0_1.length c0_1], .int .i64 a1] w fun e w' => e = .returned (.int .i64 r) ∧ Below w.heap.size w w' := by
  have hu41 := Try.underlying41
  have HR0_1 := Aside0.mk hr0_1
  have HC0_1 := Aside0.mk hc0_1
  clear hr0_1 hc0_1
  have HB := Aside0.mk (Below.refl w.heap.size w)
  have H : ((laws_szPageS.f k l0_1 a1).bind fun t241 => (if t241 < 0 then (some (-1)) else (some t241))) = some r := h
  clear h
  replace H := Option.bind_eq_some_iff.mp H
  obtain ⟨t241, A30, H⟩ := H
  replace H : (if t241 < 0 then (some (-1)) else (some t241)) = some r := H
  have A3 := Aside0.mk A30
  clear A30
  by_cases c4 : t241 < 0
  · rw [if_pos c4] at H
    have c4b0 : decide (t241 < 0) = true := decide_eq_true c4
    clear c4
    obtain rfl := Option.some.inj H
    go_enter Try.func23, Try.ntmps23
    go_wp2_with (first | ((with_reducible refine gate_dst (N := 2) rfl ?_); refine box_event ?hg (N := 2) ?hd (cs := #[.int .i64 a0_0, .slice A0_1 l0_1.length c0_1]) (t := 41) ?hr ?_; (case hd => rfl); (case hg => rfl); (case hr => first | (go_simp; done) | (go_simp; rfl)); intro gb240 hg w5 hbox hb; have n0_ := Aside0.mk (below_step (by repeat (first | (with_reducible first | exact HB.out | apply below_alloc | apply pw_below_drewN | apply below_drew1) | exact HB.out)) hb); have n1_ := Aside0.mk (hbox); have n2_ := Aside0.mk ((by rw [hg]; exact (below_size (by repeat (first | (with_reducible first | exact HB.out | apply below_alloc | apply pw_below_drewN | apply below_drew1) | exact HB.out))) : w.heap.size ≤ gb240)); have n3_ := Aside0.mk ((by rw [hg]; exact (below_size (by repeat (first | (with_reducible first | exact HB.out | apply below_alloc | apply pw_below_drewN | apply below_drew1) | exact HB.out))) : w.heap.size ≤ gb240)); clear HB; have HB := n0_; have BK240 := n1_; have GW240 := n2_; have GE240 := n3_; clear n0_ n1_ n2_ n3_; clear hb hbox hg; have hcz6_0 : w5.cell? ⟨gb240, 0, none⟩ = some (.int .i64 a0_0) := (blk_cell BK240.out 0).trans rfl; have hcz6_1 : w5.cell? ⟨gb240, 1, none⟩ = some (.slice A0_1 l0_1.length c0_1) := (blk_cell BK240.out 1).trans rfl; have hfz6_0 := blk_frozen BK240.out 0; have hfz6_1 := blk_frozen BK240.out 1) | ((with_reducible refine gate_callee (f := 69) rfl ?_); refine goesL_ (some 8) rfl rfl Try.func69 (by kernel_rfl) rfl #[.slice A0_1 l0_1.length c0_1, .int .i64 a1] rfl (by (try simp only [List.map_toArray, List.map_cons, List.map_nil]); first | done | rfl | (simp only [List.length_drop, List.length_take]; rfl)) ?_; (with_reducible refine (laws_szPageS.calls k _ _ l0_1 a1 t241 _ ?side1 ?side2 A3.out).mono ?_); (case side1 => repeat (first | exact (Kd.C_below HR0_1.out HB.out) | (with_reducible refine Kd.C_alloc ?_ _) | (with_reducible refine Kd.C_drewN ?_ _) | (with_reducible refine Kd.C_drew ?_))); (case side2 => exact HC0_1.out); rintro e w7 ⟨rfl, hb⟩; refine ⟨_, rfl, ?_⟩; have n0_ := Aside0.mk (blk_below (g := gb240) (o := .cells #[.int .i64 a0_0, .slice A0_1 l0_1.length c0_1] 41 (0, 0)) (by (with_reducible repeat (first | refine blk_drewN ?_ _ | refine blk_drew ?_ | refine blk_alloc ?_ _)); exact BK240.out) hb); have n1_ := Aside0.mk (below_step (by repeat (first | (with_reducible first | exact HB.out | apply below_alloc | apply pw_below_drewN | apply below_drew1 | refine below_set ?_ GE240.out) | exact HB.out)) hb); clear BK240; clear HB; have BK240 := n0_; have HB := n1_; clear n0_ n1_; (try clear hb); (try clear hb2); (try clear hk); (try clear hi)))
    go_ret
    exact ⟨by first | rfl | (simp [errW_none, errW_some] <;> rfl) | (simp [*, errW_none, errW_some] <;> rfl), by repeat (first | (with_reducible first | exact HB.out | apply below_alloc | apply pw_below_drewN | apply below_drew1 | refine below_set ?_ GE240.out) | exact HB.out)⟩
  · rw [if_neg c4] at H
    have c4b0 : decide (t241 < 0) = false := decide_eq_false c4
    clear c4
    obtain rfl := Option.some.inj H
    go_enter Try.func23, Try.ntmps23
    go_wp2_with (first | ((with_reducible refine gate_dst (N := 2) rfl ?_); refine box_event ?hg (N := 2) ?hd (cs := #[.int .i64 a0_0, .slice A0_1 l0_1.length c0_1]) (t := 41) ?hr ?_; (case hd => rfl); (case hg => rfl); (case hr => first | (go_simp; done) | (go_simp; rfl)); intro gb240 hg w8 hbox hb; have n0_ := Aside0.mk (below_step (by repeat (first | (with_reducible first | exact HB.out | apply below_alloc | apply pw_below_drewN | apply below_drew1) | exact HB.out)) hb); have n1_ := Aside0.mk (hbox); have n2_ := Aside0.mk ((by rw [hg]; exact (below_size (by repeat (first | (with_reducible first | exact HB.out | apply below_alloc | apply pw_below_drewN | apply below_drew1) | exact HB.out))) : w.heap.size ≤ gb240)); have n3_ := Aside0.mk ((by rw [hg]; exact (below_size (by repeat (first | (with_reducible first | exact HB.out | apply below_alloc | apply pw_below_drewN | apply below_drew1) | exact HB.out))) : w.heap.size ≤ gb240)); clear HB; have HB := n0_; have BK240 := n1_; have GW240 := n2_; have GE240 := n3_; clear n0_ n1_ n2_ n3_; clear hb hbox hg; have hcz9_0 : w8.cell? ⟨gb240, 0, none⟩ = some (.int .i64 a0_0) := (blk_cell BK240.out 0).trans rfl; have hcz9_1 : w8.cell? ⟨gb240, 1, none⟩ = some (.slice A0_1 l0_1.length c0_1) := (blk_cell BK240.out 1).trans rfl; have hfz9_0 := blk_frozen BK240.out 0; have hfz9_1 := blk_frozen BK240.out 1) | ((with_reducible refine gate_callee (f := 69) rfl ?_); refine goesL_ (some 8) rfl rfl Try.func69 (by kernel_rfl) rfl #[.slice A0_1 l0_1.length c0_1, .int .i64 a1] rfl (by (try simp only [List.map_toArray, List.map_cons, List.map_nil]); first | done | rfl | (simp only [List.length_drop, List.length_take]; rfl)) ?_; (with_reducible refine (laws_szPageS.calls k _ _ l0_1 a1 t241 _ ?side1 ?side2 A3.out).mono ?_); (case side1 => repeat (first | exact (Kd.C_below HR0_1.out HB.out) | (with_reducible refine Kd.C_alloc ?_ _) | (with_reducible refine Kd.C_drewN ?_ _) | (with_reducible refine Kd.C_drew ?_))); (case side2 => exact HC0_1.out); rintro e w10 ⟨rfl, hb⟩; refine ⟨_, rfl, ?_⟩; have n0_ := Aside0.mk (blk_below (g := gb240) (o := .cells #[.int .i64 a0_0, .slice A0_1 l0_1.length c0_1] 41 (0, 0)) (by (with_reducible repeat (first | refine blk_drewN ?_ _ | refine blk_drew ?_ | refine blk_alloc ?_ _)); exact BK240.out) hb); have n1_ := Aside0.mk (below_step (by repeat (first | (with_reducible first | exact HB.out | apply below_alloc | apply pw_below_drewN | apply below_drew1 | refine below_set ?_ GE240.out) | exact HB.out)) hb); clear BK240; clear HB; have BK240 := n0_; have HB := n1_; clear n0_ n1_; (try clear hb); (try clear hb2); (try clear hk); (try clear hi)))
    go_ret
    exact ⟨by first | rfl | (simp [errW_none, errW_some] <;> rfl) | (simp [*, errW_none, errW_some] <;> rfl), by repeat (first | (with_reducible first | exact HB.out | apply below_alloc | apply pw_below_drewN | apply below_drew1 | refine below_set ?_ GE240.out) | exact HB.out)⟩

end Go.Proofs.Ytngjaajcdbodeaa.All

namespace Go.Proofs.Ytngjaajcdbodeaa.All
open Go.RowKit Go.Proofs.YtngjaajcdbodeaaW.PrintWords Go.Proofs.YtngjaajcdbodeaaW.PrintLast Go.Proofs.YtngjaajcdbodeaaW.PrintMore
attribute [local go_sem] max2_int min2_int max_two min_two max_three min_three max_four min_four   -- for this text's walks alone
set_option linter.unusedVariables false
set_option linter.unusedSimpArgs false

/-! ### laws_toBox: function 48 -/
def laws_toBox.f (a0_0 : Int) (a0_1 : Int) (a0_2 : Int) (a0_3 : Int) : Option (Int × Int × Int × Int) := some (a0_0, a0_1, a0_2, a0_3)
set_option maxHeartbeats 8000000 in
set_option maxRecDepth 100000 in
theorem laws_toBox.calls (a0_0 : Int) (a0_1 : Int) (a0_2 : Int) (a0_3 : Int) (r1 : Int) (r2 : Int) (r3 : Int) (r4 : Int) (w : World) (h : laws_toBox.f a0_0 a0_1 a0_2 a0_3 = some (r1, r2, r3, r4)) :
    Calls Try.prog 48 #[.agg #[.int .i64 a0_0, .int .i64 a0_1, .int .i64 a0_2, .int .i64 a0_3]] w fun e w' => e = .returned (.agg #[.int .i64 r1, .int .i64 r2, .int .i64 r3, .int .i64 r4]) ∧ Below w.heap.size w w' := by
  have hu24 := Try.underlying24
  have hu32 := Try.underlying32
  have HB := Aside0.mk (Below.refl w.heap.size w)
  have H : (some (a0_0, a0_1, a0_2, a0_3)) = some (r1, r2, r3, r4) := h
  clear h
  simp only [Option.some.injEq, Prod.mk.injEq] at H
  obtain ⟨rfl, rfl, rfl, rfl⟩ := H
  go_enter Try.func48, Try.ntmps48
  go_wp2_with (first | ((with_reducible refine gate_dst (N := 1) rfl ?_); refine box_event ?hg (N := 1) ?hd (cs := #[.int .i64 a0_0, .int .i64 a0_1, .int .i64 a0_2, .int .i64 a0_3]) (t := 24) ?hr ?_; (case hd => rfl); (case hg => rfl); (case hr => first | (go_simp; done) | (go_simp; rfl)); intro gb150 hg w2 hbox hb; have n0_ := Aside0.mk (below_step (by repeat (first | (with_reducible first | exact HB.out | apply below_alloc | apply pw_below_drewN | apply below_drew1) | exact HB.out)) hb); have n1_ := Aside0.mk (hbox); have n2_ := Aside0.mk ((by rw [hg]; exact (below_size (by repeat (first | (with_reducible first | exact HB.out | apply below_alloc | apply pw_below_drewN | apply below_drew1) | exact HB.out))) : w.heap.size ≤ gb150)); have n3_ := Aside0.mk ((by rw [hg]; exact (below_size (by repeat (first | (with_reducible first | exact HB.out | apply below_alloc | apply pw_below_drewN | apply below_drew1) | exact HB.out))) : w.heap.size ≤ gb150)); clear HB; have HB := n0_; have BK150 := n1_; have GW150 := n2_; have GE150 := n3_; clear n0_ n1_ n2_ n3_; clear hb hbox hg) | ((with_reducible refine gate_dst (N := 2) rfl ?_); refine box_event ?hg (N := 2) ?hd (cs := #[.int .i64 0, .int .i64 0, .int .i64 0, .int .i64 0]) (t := 32) ?hr ?_; (case hd => rfl); (case hg => rfl); (case hr => first | (go_simp; done) | (go_simp; rfl)); intro gb151 hg w3 hbox hb; have n0_ := Aside0.mk (blk_below (g := gb150) (o := .cells #[.int .i64 a0_0, .int .i64 a0_1, .int .i64 a0_2, .int .i64 a0_3] 24 (0, 0)) (by (with_reducible repeat (first | refine blk_drewN ?_ _ | refine blk_drew ?_ | refine blk_alloc ?_ _)); exact BK150.out) hb); have n1_ := Aside0.mk (below_step (by repeat (first | (with_reducible first | exact HB.out | apply below_alloc | apply pw_below_drewN | apply below_drew1 | refine below_set ?_ GE150.out) | exact HB.out)) hb); have n2_ := Aside0.mk (hbox); have n3_ := Aside0.mk ((by rw [hg]; exact (below_size (by repeat (first | (with_reducible first | exact HB.out | apply below_alloc | apply pw_below_drewN | apply below_drew1 | refine below_set ?_ GE150.out) | exact HB.out))) : w.heap.size ≤ gb151)); have n4_ := Aside0.mk ((by rw [hg]; exact (below_size (by repeat (first | (with_reducible first | exact HB.out | apply below_alloc | apply pw_below_drewN | apply below_drew1 | refine below_set ?_ GE150.out) | exact HB.out))) : w.heap.size ≤ gb151)); have n5_ := Aside0.mk ((by rw [hg]; exact Nat.ne_of_lt (blk_lt (g := gb150) (o := .cells #[.int .i64 a0_0, .int .i64 a0_1, .int .i64 a0_2, .int .i64 a0_3] 24 (0, 0)) (by (with_reducible repeat (first | refine blk_drewN ?_ _ | refine blk_drew ?_ | refine blk_alloc ?_ _)); exact BK150.out)) : gb150 ≠ gb151)); have n6_ := Aside0.mk ((by rw [hg]; exact Nat.ne_of_gt (blk_lt (g := gb150) (o := .cells #[.int .i64 a0_0, .int .i64 a0_1, .int .i64 a0_2, .int .i64 a0_3] 24 (0, 0)) (by (with_reducible repeat (first | refine blk_drewN ?_ _ | refine blk_drew ?_ | refine blk_alloc ?_ _)); exact BK150.out)) : gb151 ≠ gb150)); clear BK150; clear HB; have BK150 := n0_; have HB := n1_; have BK151 := n2_; have GW151 := n3_; have GE151 := n4_; have NB150_151 := n5_; have NB151_150 := n6_; clear n0_ n1_ n2_ n3_ n4_ n5_ n6_; clear hb hbox hg) | ((with_reducible refine gate_dst (N := 3) rfl ?_); refine box_event ?hg (N := 3) ?hd (cs := #[.int .i64 0, .int .i64 0, .int .i64 0, .int .i64 0]) (t := 32) ?hr ?_; (case hd => rfl); (case hg => rfl); (case hr => first | (go_simp; done) | (go_simp; rfl)); intro gb152 hg w4 hbox hb; have n0_ := Aside0.mk (blk_below (g := gb150) (o := .cells #[.int .i64 a0_0, .int .i64 a0_1, .int .i64 a0_2, .int .i64 a0_3] 24 (0, 0)) (by (with_reducible repeat (first | refine blk_drewN ?_ _ | refine blk_drew ?_ | refine blk_alloc ?_ _)); exact BK150.out) hb); have n1_ := Aside0.mk (blk_below (g := gb151) (o := .cells #[.int .i64 0, .int .i64 0, .int .i64 0, .int .i64 0] 32 (0, 0)) (by (with_reducible repeat (first | refine blk_drewN ?_ _ | refine blk_drew ?_ | refine blk_alloc ?_ _)); exact BK151.out) hb); have n2_ := Aside0.mk (below_step (by repeat (first | (with_reducible first | exact HB.out | apply below_alloc | apply pw_below_drewN | apply below_drew1 | refine below_set ?_ GE150.out | refine below_set ?_ GE151.out) | exact HB.out)) hb); have n3_ := Aside0.mk (hbox); have n4_ := Aside0.mk ((by rw [hg]; exact (below_size (by repeat (first | (with_reducible first | exact HB.out | apply below_alloc | apply pw_below_drewN | apply below_drew1 | refine below_set ?_ GE150.out | refine below_set ?_ GE151.out) | exact HB.out))) : w.heap.size ≤ gb152)); have n5_ := Aside0.mk ((by rw [hg]; exact (below_size (by repeat (first | (with_reducible first | exact HB.out | apply below_alloc | apply pw_below_drewN | apply below_drew1 | refine below_set ?_ GE150.out | refine below_set ?_ GE151.out) | exact HB.out))) : w.heap.size ≤ gb152)); have n6_ := Aside0.mk ((by rw [hg]; exact Nat.ne_of_lt (blk_lt (g := gb150) (o := .cells #[.int .i64 a0_0, .int .i64 a0_1, .int .i64 a0_2, .int .i64 a0_3] 24 (0, 0)) (by (with_reducible repeat (first | refine blk_drewN ?_ _ | refine blk_drew ?_ | refine blk_alloc ?_ _)); exact BK150.out)) : gb150 ≠ gb152)); have n7_ := Aside0.mk ((by rw [hg]; exact Nat.ne_of_gt (blk_lt (g := gb150) (o := .cells #[.int .i64 a0_0, .int .i64 a0_1, .int .i64 a0_2, .int .i64 a0_3] 24 (0, 0)) (by (with_reducible repeat (first | refine blk_drewN ?_ _ | refine blk_drew ?_ | refine blk_alloc ?_ _)); exact BK150.out)) : gb152 ≠ gb150)); have n8_ := Aside0.mk ((by rw [hg]; exact Nat.ne_of_lt (blk_lt (g := gb151) (o := .cells #[.int .i64 0, .int .i64 0, .int .i64 0, .int .i64 0] 32 (0, 0)) (by (with_reducible repeat (first | refine blk_drewN ?_ _ | refine blk_drew ?_ | refine blk_alloc ?_ _)); exact BK151.out)) : gb151 ≠ gb152)); have n9_ := Aside0.mk ((by rw [hg]; exact Nat.ne_of_gt (blk_lt (g := gb151) (o := .cells #[.int .i64 0, .int .i64 0, .int .i64 0, .int .i64 0] 32 (0, 0)) (by (with_reducible repeat (first | refine blk_drewN ?_ _ | refine blk_drew ?_ | refine blk_alloc ?_ _)); exact BK151.out)) : gb152 ≠ gb151)); clear BK150; clear BK151; clear HB; have BK150 := n0_; have BK151 := n1_; have HB := n2_; have BK152 := n3_; have GW152 := n4_; have GE152 := n5_; have NB150_152 := n6_; have NB152_150 := n7_; have NB151_152 := n8_; have NB152_151 := n9_; clear n0_ n1_ n2_ n3_ n4_ n5_ n6_ n7_ n8_ n9_; clear hb hbox hg; have hnb5 := NB150_151.out; have hnc5 := NB151_150.out; have hnb6 := NB150_152.out; have hnc6 := NB152_150.out; have hcz7_0 : w4.cell? ⟨gb150, 0, none⟩ = some (.int .i64 a0_0) := (blk_cell BK150.out 0).trans rfl; have hcz7_1 : w4.cell? ⟨gb150, 1, none⟩ = some (.int .i64 a0_1) := (blk_cell BK150.out 1).trans rfl; have hcz7_2 : w4.cell? ⟨gb150, 2, none⟩ = some (.int .i64 a0_2) := (blk_cell BK150.out 2).trans rfl; have hcz7_3 : w4.cell? ⟨gb150, 3, none⟩ = some (.int .i64 a0_3) := (blk_cell BK150.out 3).trans rfl; have hfz7_0 := blk_frozen BK150.out 0; have hfz7_1 := blk_frozen BK150.out 1; have hfz7_2 := blk_frozen BK150.out 2; have hfz7_3 := blk_frozen BK150.out 3; have hnb8 := NB152_151.out; have hnc8 := NB151_152.out; have hcz9_0 : w4.cell? ⟨gb152, 0, none⟩ = some (.int .i64 0) := (blk_cell BK152.out 0).trans rfl; have hcz9_1 : w4.cell? ⟨gb152, 1, none⟩ = some (.int .i64 0) := (blk_cell BK152.out 1).trans rfl; have hcz9_2 : w4.cell? ⟨gb152, 2, none⟩ = some (.int .i64 0) := (blk_cell BK152.out 2).trans rfl; have hcz9_3 : w4.cell? ⟨gb152, 3, none⟩ = some (.int .i64 0) := (blk_cell BK152.out 3).trans rfl; have hfz9_0 := blk_frozen BK152.out 0; have hfz9_1 := blk_frozen BK152.out 1; have hfz9_2 := blk_frozen BK152.out 2; have hfz9_3 := blk_frozen BK152.out 3; have hcz10_0 : w4.cell? ⟨gb151, 0, none⟩ = some (.int .i64 0) := (blk_cell BK151.out 0).trans rfl; have hcz10_1 : w4.cell? ⟨gb151, 1, none⟩ = some (.int .i64 0) := (blk_cell BK151.out 1).trans rfl; have hcz10_2 : w4.cell? ⟨gb151, 2, none⟩ = some (.int .i64 0) := (blk_cell BK151.out 2).trans rfl; have hcz10_3 : w4.cell? ⟨gb151, 3, none⟩ = some (.int .i64 0) := (blk_cell BK151.out 3).trans rfl; have hfz10_0 := blk_frozen BK151.out 0; have hfz10_1 := blk_frozen BK151.out 1; have hfz10_2 := blk_frozen BK151.out 2; have hfz10_3 := blk_frozen BK151.out 3))
  refine bodyPost_ret (results_cell_row rfl _ _ gb151 32 #[.int .i64 a0_0, .int .i64 a0_1, .int .i64 a0_2, .int .i64 a0_3] (0, 0) _ rfl (by (with_reducible repeat (first | refine blk_drewN ?_ _ | refine blk_drew ?_ | refine blk_alloc ?_ _)); refine blk_put (cs := #[.int .i64 a0_0, .int .i64 a0_1, .int .i64 a0_2, .int .i64 0]) ?_ 3 _ rfl; (with_reducible repeat (first | refine blk_drewN ?_ _ | refine blk_drew ?_ | refine blk_alloc ?_ _)); refine blk_put (cs := #[.int .i64 a0_0, .int .i64 a0_1, .int .i64 0, .int .i64 0]) ?_ 2 _ rfl; (with_reducible repeat (first | refine blk_drewN ?_ _ | refine blk_drew ?_ | refine blk_alloc ?_ _)); refine blk_put (cs := #[.int .i64 a0_0, .int .i64 0, .int .i64 0, .int .i64 0]) ?_ 1 _ rfl; (with_reducible repeat (first | refine blk_drewN ?_ _ | refine blk_drew ?_ | refine blk_alloc ?_ _)); refine blk_put (cs := #[.int .i64 0, .int .i64 0, .int .i64 0, .int .i64 0]) ?_ 0 _ rfl; (with_reducible repeat (first | refine blk_drewN ?_ _ | refine blk_drew ?_ | refine blk_alloc ?_ _)); refine blk_far ?_ NB151_152.out _; (with_reducible repeat (first | refine blk_drewN ?_ _ | refine blk_drew ?_ | refine blk_alloc ?_ _)); refine blk_far ?_ NB151_152.out _; (with_reducible repeat (first | refine blk_drewN ?_ _ | refine blk_drew ?_ | refine blk_alloc ?_ _)); refine blk_far ?_ NB151_152.out _; (with_reducible repeat (first | refine blk_drewN ?_ _ | refine blk_drew ?_ | refine blk_alloc ?_ _)); refine blk_far ?_ NB151_152.out _; (with_reducible repeat (first | refine blk_drewN ?_ _ | refine blk_drew ?_ | refine blk_alloc ?_ _)); exact BK151.out) Try.underlying32 rfl (by kernel_rfl)) rfl ?_
  exact ⟨by first | rfl | (simp [errW_none, errW_some] <;> rfl) | (simp [*, errW_none, errW_some] <;> rfl), by repeat (first | (with_reducible first | exact HB.out | apply below_alloc | apply pw_below_drewN | apply below_drew1 | refine below_set ?_ GE150.out | refine below_set ?_ GE151.out | refine below_set ?_ GE152.out) | exact HB.out)⟩

end Go.Proofs.Ytngjaajcdbodeaa.All

namespace Go.Proofs.Ytngjaajcdbodeaa.All
open Go.RowKit Go.Proofs.YtngjaajcdbodeaaW.PrintWords Go.Proofs.YtngjaajcdbodeaaW.PrintLast Go.Proofs.YtngjaajcdbodeaaW.PrintMore
attribute [local go_sem] max2_int min2_int max_two min_two max_three min_three max_four min_four   -- for this text's walks alone
set_option linter.unusedVariables false
set_option linter.unusedSimpArgs false

/-! ### laws_toEntry: function 119 -/
def laws_toEntry.f (a0_0 : Int) (a0_1 : Int) (a0_2 : Int) (a0_3 : Int) (a0_4 : Int) : Option (Int × Int × Int × Int × Int) := (laws_toBox.f a0_1 a0_2 a0_3 a0_4).bind fun bt282 => (some (a0_0, bt282.1, bt282.2.1, bt282.2.2.1, bt282.2.2.2))
set_option maxHeartbeats 8000000 in
set_option maxRecDepth 100000 in
theorem laws_toEntry.calls (a0_0 : Int) (a0_1 : Int) (a0_2 : Int) (a0_3 : Int) (a0_4 : Int) (r1 : Int) (r2 : Int) (r3 : Int) (r4 : Int) (r5 : Int) (w : World) (h : laws_toEntry.f a0_0 a0_1 a0_2 a0_3 a0_4 = some (r1, r2, r3, r4, r5)) :
    Calls Try.prog 119 #[.agg #[.int .i64 a0_0, .int .i64 a0_1, .int .i64 a0_2, .int .i64 a0_3, .int .i64 a0_4]] w fun e w' => e = .returned (.agg #[.int .i64 r1, .int .i64 r2, .int .i64 r3, .int .i64 r4, .int .i64 r5]) ∧ Below w.heap.size w w' := by
  have hu122 := Try.underlying122
  have hu103 := Try.underlying103
  have hu24 := Try.underlying24
  have hu32 := Try.underlying32
  have HB := Aside0.mk (Below.refl w.heap.size w)
  have H : ((laws_toBox.f a0_1 a0_2 a0_3 a0_4).bind fun bt282 => (some (a0_0, bt282.1, bt282.2.1, bt282.2.2.1, bt282.2.2.2))) = some (r1, r2, r3, r4, r5) := h
  clear h
  replace H := Option.bind_eq_some_iff.mp H
  obtain ⟨⟨t282, t283, t284, t285⟩, A20, H⟩ := H
  replace H : (some (a0_0, t282, t283, t284, t285)) = some (r1, r2, r3, r4, r5) := H
  have A2 := Aside0.mk A20
  clear A20
  simp only [Option.some.injEq, Prod.mk.injEq] at H
  obtain ⟨rfl, rfl, rfl, rfl, rfl⟩ := H
  go_enter Try.func119, Try.ntmps119
  go_wp2_with (first | ((with_reducible refine gate_dst (N := 1) rfl ?_); refine box_event ?hg (N := 1) ?hd (cs := #[.int .i64 a0_0, .int .i64 a0_1, .int .i64 a0_2, .int .i64 a0_3, .int .i64 a0_4]) (t := 122) ?hr ?_; (case hd => rfl); (case hg => rfl); (case hr => first | (go_simp; done) | (go_simp; rfl)); intro gb279 hg w3 hbox hb; have n0_ := Aside0.mk (below_step (by repeat (first | (with_reducible first | exact HB.out | apply below_alloc | apply pw_below_drewN | apply below_drew1) | exact HB.out)) hb); have n1_ := Aside0.mk (hbox); have n2_ := Aside0.mk ((by rw [hg]; exact (below_size (by repeat (first | (with_reducible first | exact HB.out | apply below_alloc | apply pw_below_drewN | apply below_drew1) | exact HB.out))) : w.heap.size ≤ gb279)); have n3_ := Aside0.mk ((by rw [hg]; exact (below_size (by repeat (first | (with_reducible first | exact HB.out | apply below_alloc | apply pw_below_drewN | apply below_drew1) | exact HB.out))) : w.heap.size ≤ gb279)); clear HB; have HB := n0_; have BK279 := n1_; have GW279 := n2_; have GE279 := n3_; clear n0_ n1_ n2_ n3_; clear hb hbox hg) | ((with_reducible refine gate_dst (N := 2) rfl ?_); refine box_event ?hg (N := 2) ?hd (cs := #[.int .i64 0, .int .i64 0, .int .i64 0, .int .i64 0, .int .i64 0]) (t := 103) ?hr ?_; (case hd => rfl); (case hg => rfl); (case hr => first | (go_simp; done) | (go_simp; rfl)); intro gb280 hg w4 hbox hb; have n0_ := Aside0.mk (blk_below (g := gb279) (o := .cells #[.int .i64 a0_0, .int .i64 a0_1, .int .i64 a0_2, .int .i64 a0_3, .int .i64 a0_4] 122 (0, 0)) (by (with_reducible repeat (first | refine blk_drewN ?_ _ | refine blk_drew ?_ | refine blk_alloc ?_ _)); exact BK279.out) hb); have n1_ := Aside0.mk (below_step (by repeat (first | (with_reducible first | exact HB.out | apply below_alloc | apply pw_below_drewN | apply below_drew1 | refine below_set ?_ GE279.out) | exact HB.out)) hb); have n2_ := Aside0.mk (hbox); have n3_ := Aside0.mk ((by rw [hg]; exact (below_size (by repeat (first | (with_reducible first | exact HB.out | apply below_alloc | apply pw_below_drewN | apply below_drew1 | refine below_set ?_ GE279.out) | exact HB.out))) : w.heap.size ≤ gb280)); have n4_ := Aside0.mk ((by rw [hg]; exact (below_size (by repeat (first | (with_reducible first | exact HB.out | apply below_alloc | apply pw_below_drewN | apply below_drew1 | refine below_set ?_ GE279.out) | exact HB.out))) : w.heap.size ≤ gb280)); have n5_ := Aside0.mk ((by rw [hg]; exact Nat.ne_of_lt (blk_lt (g := gb279) (o := .cells #[.int .i64 a0_0, .int .i64 a0_1, .int .i64 a0_2, .int .i64 a0_3, .int .i64 a0_4] 122 (0, 0)) (by (with_reducible repeat (first | refine blk_drewN ?_ _ | refine blk_drew ?_ | refine blk_alloc ?_ _)); exact BK279.out)) : gb279 ≠ gb280)); have n6_ := Aside0.mk ((by rw [hg]; exact Nat.ne_of_gt (blk_lt (g := gb279) (o := .cells #[.int .i64 a0_0, .int .i64 a0_1, .int .i64 a0_2, .int .i64 a0_3, .int .i64 a0_4] 122 (0, 0)) (by (with_reducible repeat (first | refine blk_drewN ?_ _ | refine blk_drew ?_ | refine blk_alloc ?_ _)); exact BK279.out)) : gb280 ≠ gb279)); clear BK279; clear HB; have BK279 := n0_; have HB := n1_; have BK280 := n2_; have GW280 := n3_; have GE280 := n4_; have NB279_280 := n5_; have NB280_279 := n6_; clear n0_ n1_ n2_ n3_ n4_ n5_ n6_; clear hb hbox hg) | ((with_reducible refine gate_dst (N := 3) rfl ?_); refine box_event ?hg (N := 3) ?hd (cs := #[.int .i64 0, .int .i64 0, .int .i64 0, .int .i64 0, .int .i64 0]) (t := 103) ?hr ?_; (case hd => rfl); (case hg => rfl); (case hr => first | (go_simp; done) | (go_simp; rfl)); intro gb281 hg w5 hbox hb; have n0_ := Aside0.mk (blk_below (g := gb279) (o := .cells #[.int .i64 a0_0, .int .i64 a0_1, .int .i64 a0_2, .int .i64 a0_3, .int .i64 a0_4] 122 (0, 0)) (by (with_reducible repeat (first | refine blk_drewN ?_ _ | refine blk_drew ?_ | refine blk_alloc ?_ _)); exact BK279.out) hb); have n1_ := Aside0.mk (blk_below (g := gb280) (o := .cells #[.int .i64 0, .int .i64 0, .int .i64 0, .int .i64 0, .int .i64 0] 103 (0, 0)) (by (with_reducible repeat (first | refine blk_drewN ?_ _ | refine blk_drew ?_ | refine blk_alloc ?_ _)); exact BK280.out) hb); have n2_ := Aside0.mk (below_step (by repeat (first | (with_reducible first | exact HB.out | apply below_alloc | apply pw_below_drewN | apply below_drew1 | refine below_set ?_ GE279.out | refine below_set ?_ GE280.out) | exact HB.out)) hb); have n3_ := Aside0.mk (hbox); have n4_ := Aside0.mk ((by rw [hg]; exact (below_size (by repeat (first | (with_reducible first | exact HB.out | apply below_alloc | apply pw_below_drewN | apply below_drew1 | refine below_set ?_ GE279.out | refine below_set ?_ GE280.out) | exact HB.out))) : w.heap.size ≤ gb281)); have n5_ := Aside0.mk ((by rw [hg]; exact (below_size (by repeat (first | (with_reducible first | exact HB.out | apply below_alloc | apply pw_below_drewN | apply below_drew1 | refine below_set ?_ GE279.out | refine below_set ?_ GE280.out) | exact HB.out))) : w.heap.size ≤ gb281)); have n6_ := Aside0.mk ((by rw [hg]; exact Nat.ne_of_lt (blk_lt (g := gb279) (o := .cells #[.int .i64 a0_0, .int .i64 a0_1, .int .i64 a0_2, .int .i64 a0_3, .int .i64 a0_4] 122 (0, 0)) (by (with_reducible repeat (first | refine blk_drewN ?_ _ | refine blk_drew ?_ | refine blk_alloc ?_ _)); exact BK279.out)) : gb279 ≠ gb281)); have n7_ := Aside0.mk ((by rw [hg]; exact Nat.ne_of_gt (blk_lt (g := gb279) (o := .cells #[.int .i64 a0_0, .int .i64 a0_1, .int .i64 a0_2, .int .i64 a0_3, .int .i64 a0_4] 122 (0, 0)) (by (with_reducible repeat (first | refine blk_drewN ?_ _ | refine blk_drew ?_ | refine blk_alloc ?_ _)); exact BK279.out)) : gb281 ≠ gb279)); have n8_ := Aside0.mk ((by rw [hg]; exact Nat.ne_of_lt (blk_lt (g := gb280) (o := .cells #[.int .i64 0, .int .i64 0, .int .i64 0, .int .i64 0, .int .i64 0] 103 (0, 0)) (by (with_reducible repeat (first | refine blk_drewN ?_ _ | refine blk_drew ?_ | refine blk_alloc ?_ _)); exact BK280.out)) : gb280 ≠ gb281)); have n9_ := Aside0.mk ((by rw [hg]; exact Nat.ne_of_gt (blk_lt (g := gb280) (o := .cells #[.int .i64 0, .int .i64 0, .int .i64 0, .int .i64 0, .int .i64 0] 103 (0, 0)) (by (with_reducible repeat (first | refine blk_drewN ?_ _ | refine blk_drew ?_ | refine blk_alloc ?_ _)); exact BK280.out)) : gb281 ≠ gb280)); clear BK279; clear BK280; clear HB; have BK279 := n0_; have BK280 := n1_; have HB := n2_; have BK281 := n3_; have GW281 := n4_; have GE281 := n5_; have NB279_281 := n6_; have NB281_279 := n7_; have NB280_281 := n8_; have NB281_280 := n9_; clear n0_ n1_ n2_ n3_ n4_ n5_ n6_ n7_ n8_ n9_; clear hb hbox hg; have hnb6 := NB279_280.out; have hnc6 := NB280_279.out; have hnb7 := NB279_281.out; have hnc7 := NB281_279.out; have hcz8_0 : w5.cell? ⟨gb279, 0, none⟩ = some (.int .i64 a0_0) := (blk_cell BK279.out 0).trans rfl; have hcz8_1 : w5.cell? ⟨gb279, 1, none⟩ = some (.int .i64 a0_1) := (blk_cell BK279.out 1).trans rfl; have hcz8_2 : w5.cell? ⟨gb279, 2, none⟩ = some (.int .i64 a0_2) := (blk_cell BK279.out 2).trans rfl; have hcz8_3 : w5.cell? ⟨gb279, 3, none⟩ = some (.int .i64 a0_3) := (blk_cell BK279.out 3).trans rfl; have hcz8_4 : w5.cell? ⟨gb279, 4, none⟩ = some (.int .i64 a0_4) := (blk_cell BK279.out 4).trans rfl; have hfz8_0 := blk_frozen BK279.out 0; have hfz8_1 := blk_frozen BK279.out 1; have hfz8_2 := blk_frozen BK279.out 2; have hfz8_3 := blk_frozen BK279.out 3; have hfz8_4 := blk_frozen BK279.out 4; have hnb9 := NB281_280.out; have hnc9 := NB280_281.out; have hcz10_0 : w5.cell? ⟨gb281, 0, none⟩ = some (.int .i64 0) := (blk_cell BK281.out 0).trans rfl; have hcz10_1 : w5.cell? ⟨gb281, 1, none⟩ = some (.int .i64 0) := (blk_cell BK281.out 1).trans rfl; have hcz10_2 : w5.cell? ⟨gb281, 2, none⟩ = some (.int .i64 0) := (blk_cell BK281.out 2).trans rfl; have hcz10_3 : w5.cell? ⟨gb281, 3, none⟩ = some (.int .i64 0) := (blk_cell BK281.out 3).trans rfl; have hcz10_4 : w5.cell? ⟨gb281, 4, none⟩ = some (.int .i64 0) := (blk_cell BK281.out 4).trans rfl; have hfz10_0 := blk_frozen BK281.out 0; have hfz10_1 := blk_frozen BK281.out 1; have hfz10_2 := blk_frozen BK281.out 2; have hfz10_3 := blk_frozen BK281.out 3; have hfz10_4 := blk_frozen BK281.out 4) | ((with_reducible refine gate_callee (f := 48) rfl ?_); refine goesL_ (some 9) rfl rfl Try.func48 (by kernel_rfl) rfl #[.agg #[.int .i64 a0_1, .int .i64 a0_2, .int .i64 a0_3, .int .i64 a0_4]] rfl (by (try simp only [List.map_toArray, List.map_cons, List.map_nil]); first | done | rfl | (simp only [List.length_drop, List.length_take]; rfl)) ?_; (with_reducible refine (laws_toBox.calls a0_1 a0_2 a0_3 a0_4 t282 t283 t284 t285 _ A2.out).mono ?_); rintro e w11 ⟨rfl, hb⟩; refine ⟨_, rfl, ?_⟩; have n0_ := Aside0.mk (blk_below (g := gb279) (o := .cells #[.int .i64 a0_0, .int .i64 a0_1, .int .i64 a0_2, .int .i64 a0_3, .int .i64 a0_4] 122 (0, 0)) (by (with_reducible repeat (first | refine blk_drewN ?_ _ | refine blk_drew ?_ | refine blk_alloc ?_ _)); refine blk_far ?_ NB279_281.out _; (with_reducible repeat (first | refine blk_drewN ?_ _ | refine blk_drew ?_ | refine blk_alloc ?_ _)); exact BK279.out) hb); have n1_ := Aside0.mk (blk_below (g := gb280) (o := .cells #[.int .i64 0, .int .i64 0, .int .i64 0, .int .i64 0, .int .i64 0] 103 (0, 0)) (by (with_reducible repeat (first | refine blk_drewN ?_ _ | refine blk_drew ?_ | refine blk_alloc ?_ _)); refine blk_far ?_ NB280_281.out _; (with_reducible repeat (first | refine blk_drewN ?_ _ | refine blk_drew ?_ | refine blk_alloc ?_ _)); exact BK280.out) hb); have n2_ := Aside0.mk (blk_below (g := gb281) (o := .cells #[.int .i64 a0_0, .int .i64 0, .int .i64 0, .int .i64 0, .int .i64 0] 103 (0, 0)) (by (with_reducible repeat (first | refine blk_drewN ?_ _ | refine blk_drew ?_ | refine blk_alloc ?_ _)); refine blk_put (cs := #[.int .i64 0, .int .i64 0, .int .i64 0, .int .i64 0, .int .i64 0]) ?_ 0 _ rfl; (with_reducible repeat (first | refine blk_drewN ?_ _ | refine blk_drew ?_ | refine blk_alloc ?_ _)); exact BK281.out) hb); have n3_ := Aside0.mk (below_step (by repeat (first | (with_reducible first | exact HB.out | apply below_alloc | apply pw_below_drewN | apply below_drew1 | refine below_set ?_ GE279.out | refine below_set ?_ GE280.out | refine below_set ?_ GE281.out) | exact HB.out)) hb); clear BK279; clear BK280; clear BK281; clear HB; have BK279 := n0_; have BK280 := n1_; have BK281 := n2_; have HB := n3_; clear n0_ n1_ n2_ n3_; (try clear hb); (try clear hb2); (try clear hk); (try clear hi); have hcz12_0 : w11.cell? ⟨gb281, 0, none⟩ = some (.int .i64 a0_0) := (blk_cell BK281.out 0).trans rfl; have hcz12_1 : w11.cell? ⟨gb281, 1, none⟩ = some (.int .i64 0) := (blk_cell BK281.out 1).trans rfl; have hcz12_2 : w11.cell? ⟨gb281, 2, none⟩ = some (.int .i64 0) := (blk_cell BK281.out 2).trans rfl; have hcz12_3 : w11.cell? ⟨gb281, 3, none⟩ = some (.int .i64 0) := (blk_cell BK281.out 3).trans rfl; have hcz12_4 : w11.cell? ⟨gb281, 4, none⟩ = some (.int .i64 0) := (blk_cell BK281.out 4).trans rfl; have hfz12_0 := blk_frozen BK281.out 0; have hfz12_1 := blk_frozen BK281.out 1; have hfz12_2 := blk_frozen BK281.out 2; have hfz12_3 := blk_frozen BK281.out 3; have hfz12_4 := blk_frozen BK281.out 4; have hcz13_0 : w11.cell? ⟨gb280, 0, none⟩ = some (.int .i64 0) := (blk_cell BK280.out 0).trans rfl; have hcz13_1 : w11.cell? ⟨gb280, 1, none⟩ = some (.int .i64 0) := (blk_cell BK280.out 1).trans rfl; have hcz13_2 : w11.cell? ⟨gb280, 2, none⟩ = some (.int .i64 0) := (blk_cell BK280.out 2).trans rfl; have hcz13_3 : w11.cell? ⟨gb280, 3, none⟩ = some (.int .i64 0) := (blk_cell BK280.out 3).trans rfl; have hcz13_4 : w11.cell? ⟨gb280, 4, none⟩ = some (.int .i64 0) := (blk_cell BK280.out 4).trans rfl; have hfz13_0 := blk_frozen BK280.out 0; have hfz13_1 := blk_frozen BK280.out 1; have hfz13_2 := blk_frozen BK280.out 2; have hfz13_3 := blk_frozen BK280.out 3; have hfz13_4 := blk_frozen BK280.out 4))
  refine bodyPost_ret (results_cell_row rfl _ _ gb280 103 #[.int .i64 a0_0, .int .i64 t282, .int .i64 t283, .int .i64 t284, .int .i64 t285] (0, 0) _ rfl (by (with_reducible repeat (first | refine blk_drewN ?_ _ | refine blk_drew ?_ | refine blk_alloc ?_ _)); refine blk_put (cs := #[.int .i64 a0_0, .int .i64 t282, .int .i64 t283, .int .i64 t284, .int .i64 0]) ?_ 4 _ rfl; (with_reducible repeat (first | refine blk_drewN ?_ _ | refine blk_drew ?_ | refine blk_alloc ?_ _)); refine blk_put (cs := #[.int .i64 a0_0, .int .i64 t282, .int .i64 t283, .int .i64 0, .int .i64 0]) ?_ 3 _ rfl; (with_reducible repeat (first | refine blk_drewN ?_ _ | refine blk_drew ?_ | refine blk_alloc ?_ _)); refine blk_put (cs := #[.int .i64 a0_0, .int .i64 t282, .int .i64 0, .int .i64 0, .int .i64 0]) ?_ 2 _ rfl; (with_reducible repeat (first | refine blk_drewN ?_ _ | refine blk_drew ?_ | refine blk_alloc ?_ _)); refine blk_put (cs := #[.int .i64 a0_0, .int .i64 0, .int .i64 0, .int .i64 0, .int .i64 0]) ?_ 1 _ rfl; (with_reducible repeat (first | refine blk_drewN ?_ _ | refine blk_drew ?_ | refine blk_alloc ?_ _)); refine blk_put (cs := #[.int .i64 0, .int .i64 0, .int .i64 0, .int .i64 0, .int .i64 0]) ?_ 0 _ rfl; (with_reducible repeat (first | refine blk_drewN ?_ _ | refine blk_drew ?_ | refine blk_alloc ?_ _)); refine blk_far ?_ NB280_281.out _; (with_reducible repeat (first | refine blk_drewN ?_ _ | refine blk_drew ?_ | refine blk_alloc ?_ _)); refine blk_far ?_ NB280_281.out _; (with_reducible repeat (first | refine blk_drewN ?_ _ | refine blk_drew ?_ | refine blk_alloc ?_ _)); refine blk_far ?_ NB280_281.out _; (with_reducible repeat (first | refine blk_drewN ?_ _ | refine blk_drew ?_ | refine blk_alloc ?_ _)); refine blk_far ?_ NB280_281.out _; (with_reducible repeat (first | refine blk_drewN ?_ _ | refine blk_drew ?_ | refine blk_alloc ?_ _)); exact BK280.out) Try.underlying103 rfl (by kernel_rfl)) rfl ?_
  exact ⟨by first | rfl | (simp [errW_none, errW_some] <;> rfl) | (simp [*, errW_none, errW_some] <;> rfl), by repeat (first | (with_reducible first | exact HB.out | apply below_alloc | apply pw_below_drewN | apply below_drew1 | refine below_set ?_ GE279.out | refine below_set ?_ GE280.out | refine below_set ?_ GE281.out) | exact HB.out)⟩

end Go.Proofs.Ytngjaajcdbodeaa.All

namespace Go.Proofs.Ytngjaajcdbodeaa.All
open Go.RowKit Go.Proofs.YtngjaajcdbodeaaW.PrintWords Go.Proofs.YtngjaajcdbodeaaW.PrintLast Go.Proofs.YtngjaajcdbodeaaW.PrintMore
attribute [local go_sem] max2_int min2_int max_two min_two max_three min_three max_four min_four   -- for this text's walks alone
set_option linter.unusedVariables false
set_option linter.unusedSimpArgs false

/-! ### laws_toEntryS: function 75 -/
def laws_toEntryS.l0 : Nat → List (S122) → List (S103) → Int → Option ((List (S103)))
  | 0, _, _, _ => none
  | k + 1, x0, x3, x4 => if x4 < (x0.length : Int) then (if 0 ≤ x4 then ((laws_toEntry.f ((rd_T122 x0 x4).f0) ((rd_T122 x0 x4).f1.f0) ((rd_T122 x0 x4).f1.f1) ((rd_T122 x0 x4).f1.f2) ((rd_T122 x0 x4).f1.f3)).bind fun bt290 => (if x4 < (x3.length : Int) then (laws_toEntryS.l0 k x0 (x3.set (x4 : Int).toNat (⟨bt290.1, (⟨bt290.2.1, bt290.2.2.1, bt290.2.2.2.1, bt290.2.2.2.2⟩ : S32)⟩ : S103)) (wrap64 (x4 + 1))) else (none))) else (none)) else (some x3)
def laws_toEntryS.f (k : Nat) (l0 : List (S122)) : Option ((List (S103))) := if 0 ≤ (l0.length : Int) then (if ((l0.length : Int) : Int).toNat ≤ 7036874417766 then (laws_toEntryS.l0 k l0 (List.replicate ((l0.length : Int) : Int).toNat z103) 0) else (none)) else (none)
theorem laws_toEntryS.mono_l : ∀ k, (∀ y0 y1 y2, LeO (laws_toEntryS.l0 k y0 y1 y2) (laws_toEntryS.l0 (k + 1) y0 y1 y2))
  | 0 => fun _ _ _ r h => by simp [laws_toEntryS.l0] at h
  | k + 1 => by
    have ih0 := laws_toEntryS.mono_l k
    · intro y0 y1 y2
      unfold laws_toEntryS.l0
      repeat' first
      | (with_reducible exact ih0 _ _ _)
      | (with_reducible exact LeO.refl _)
      | (with_reducible exact LeO.none _)
      | (with_reducible refine LeO.ite ?_ ?_)
      | (with_reducible refine LeO.bind ?_ (fun _ => ?_))
      | exact ih0 _ _ _
      | exact LeO.none _
      | refine LeO.ite ?_ ?_
      | refine LeO.bind ?_ (fun _ => ?_)
theorem laws_toEntryS.mono : ∀ a0 k, LeO (laws_toEntryS.f k a0) (laws_toEntryS.f (k + 1) a0) := by
  intro a0 k
  have ih0 := laws_toEntryS.mono_l k
  unfold laws_toEntryS.f
  repeat' first
      | (with_reducible exact ih0 _ _ _)
      | (with_reducible exact LeO.refl _)
      | (with_reducible exact LeO.none _)
      | (with_reducible refine LeO.ite ?_ ?_)
      | (with_reducible refine LeO.bind ?_ (fun _ => ?_))
      | exact ih0 _ _ _
      | exact LeO.none _
      | refine LeO.ite ?_ ?_
      | refine LeO.bind ?_ (fun _ => ?_)
set_option maxHeartbeats 8000000 in
set_option maxRecDepth 100000 in
theorem laws_toEntryS.calls (k : Nat) (A0 : Option Addr) (c0 : Nat) (l0 : List (S122)) (r : List (S103)) (w : World) (hr0 : Kd.C k122 w A0 l0.length l0) (hc0 : l0.length ≤ c0) (h : laws_toEntryS.f k l0 = some r) :
    Calls Try.prog 75 #[.slice A0 l0.length c0] w fun e w' => ∃ v0_ : Value, e = .returned (v0_) ∧ Kd.R k103 103 w' w.heap.size (fun _ => True) v0_ r ∧ Below w.heap.size w w' := by
  have hu122 := Try.underlying122
  have hu103 := Try.underlying103
  have HR0 := Aside0.mk hr0
  have HC0 := Aside0.mk hc0
  clear hr0 hc0
  have HB := Aside0.mk (Below.refl w.heap.size w)
  have H : (if 0 ≤ (l0.length : Int) then (if ((l0.length : Int) : Int).toNat ≤ 7036874417766 then (laws_toEntryS.l0 k l0 (List.replicate ((l0.length : Int) : Int).toNat z103) 0) else (none)) else (none)) = some r := h
  clear h
  by_cases c2 : 0 ≤ (l0.length : Int)
  · rw [if_pos c2] at H
    have c2b0 := eq_true c2
    have c2b1 : decide (0 ≤ (l0.length : Int)) = true := decide_eq_true c2
    clear c2
    by_cases c3 : ((l0.length : Int) : Int).toNat ≤ 7036874417766
    · rw [if_pos c3] at H
      have c3b0 := eq_true c3
      have c3b1 : decide (((l0.length : Int) : Int).toNat ≤ 7036874417766) = true := decide_eq_true c3
      clear c3
      obtain ⟨y286, hy286⟩ : ∃ y_ : List (S103), y_ = (List.replicate ((l0.length : Int) : Int).toNat z103) := ⟨_, rfl⟩
      replace H : (laws_toEntryS.l0 k l0 y286 0) = some r := by first | (rw [hy286]; with_reducible exact H) | (have H2_ := (Option.bind_some _ _).symm.trans H; rw [hy286]; with_reducible exact H2_) | (have H2_ := (Option.bind_some _ _).symm.trans H; with_reducible exact H2_) | with_reducible exact H | (rw [hy286]; exact H) | exact H
      have Ny286 := Aside0.mk hy286
      clear hy286
      have H' := Aside0.mk H
      clear H
      go_enter Try.func75, Try.ntmps75
      go_wp2_with (first | ((with_reducible refine gate_dst (N := 7) rfl ?_); refine Kd.R_make k103 _ 103 rfl (N := 7) rfl 52 _ _ rfl (l0.length : Int) rfl rfl Try.underlying52 (.agg #[(.int .i64 0), (.int .i64 0), (.int .i64 0), (.int .i64 0), (.int .i64 0)]) 40 info103 rfl (by decide) (by omega) z103 (ok := fun _ => True) (okp := fun _ => True) (k103_mkM _ _ _ z103 ) (fun _ hk => hk) trivial (of_decide_eq_true (by first | (with_reducible assumption) | assumption)) (Nat.le_trans (Nat.mul_le_mul_right _ (of_decide_eq_true (by first | (with_reducible assumption) | assumption) : (l0.length : Int).toNat ≤ 7036874417766)) (by omega)) (Below.refl _ _) (Nat.le_refl _) ?_; intro v287 w4 ho5 hb hg_ hnew_; clear hg_ hnew_; (first | rw [← Ny286.out] at ho5 | (simp only [Int.reduceToNat] at ho5; rw [← Ny286.out] at ho5)); have n0_ := Aside0.mk (Kd.R_lower ho5 (below_size (by repeat (first | (with_reducible first | exact HB.out | apply below_alloc | apply pw_below_drewN | apply below_drew1) | exact HB.out)))); have n1_ := Aside0.mk (below_step (by repeat (first | (with_reducible first | exact HB.out | apply below_alloc | apply pw_below_drewN | apply below_drew1) | exact HB.out)) hb); clear HB; have HO288 := n0_; have HB := n1_; clear n0_ n1_; clear hb ho5))
      go_loopg [4] k (fun kq v4 w' => ∃ (x3_1 : List (S103)) (x4_1 : Int), v4 = .int .i64 x4_1 ∧ Aside0 (laws_toEntryS.l0 kq l0 x3_1 x4_1 = some r) ∧ Aside0 (kq ≤ k) ∧ Aside0 (Kd.R k103 103 w' w.heap.size (fun _ => True) v287 x3_1) ∧ Aside0 (Below w.heap.size w w'))
      case atStart => exact ⟨(y286), (0), (by first | rfl | (simp; done) | (simp [*]; done)), H', ⟨Nat.le_refl _⟩, ⟨by (with_reducible repeat (first | apply Kd.R_alloc | apply Kd.R_drewN | apply Kd.R_drew)); exact HO288.out⟩, ⟨by repeat (first | (with_reducible first | exact HB.out | apply below_alloc | apply pw_below_drewN | apply below_drew1) | exact HB.out)⟩⟩
      case round =>
        clear H'
        try clear c2
        try clear c2b0
        try clear c2b1
        try clear p2
        try clear c3
        try clear c3b0
        try clear c3b1
        obtain ⟨x3_1, x4_1, rfl, HA, HK1, HO_3, HB⟩ := hrel
        cases gk with
        | zero => exact absurd HA.out (by simp [laws_toEntryS.l0])
        | succ k1 =>
          have H := HA.out
          clear HA
          simp only [laws_toEntryS.l0] at H
          by_cases c6 : x4_1 < (l0.length : Int)
          · rw [if_pos c6] at H
            have c6b0 : decide (x4_1 < (l0.length : Int)) = true := decide_eq_true c6
            clear c6
            by_cases c7 : 0 ≤ x4_1
            · rw [if_pos c7] at H
              have c7b0 : decide (0 ≤ x4_1) = true := decide_eq_true c7
              clear c7
              replace H := Option.bind_eq_some_iff.mp H
              obtain ⟨⟨t290, t291, t292, t293, t294⟩, A80, H⟩ := H
              replace H : (if x4_1 < (x3_1.length : Int) then (laws_toEntryS.l0 k1 l0 (x3_1.set (x4_1 : Int).toNat (⟨t290, (⟨t291, t292, t293, t294⟩ : S32)⟩ : S103)) (wrap64 (x4_1 + 1))) else (none)) = some r := H
              have A8 := Aside0.mk A80
              clear A80
              by_cases c9 : x4_1 < (x3_1.length : Int)
              · rw [if_pos c9] at H
                have c9b0 : decide (x4_1 < (x3_1.length : Int)) = true := decide_eq_true c9
                clear c9
                obtain ⟨y295, hy295⟩ : ∃ y_ : List (S103), y_ = (x3_1.set (x4_1 : Int).toNat (⟨t290, (⟨t291, t292, t293, t294⟩ : S32)⟩ : S103)) := ⟨_, rfl⟩
                replace H : (laws_toEntryS.l0 k1 l0 y295 (wrap64 (x4_1 + 1))) = some r := by first | (rw [hy295]; with_reducible exact H) | (have H2_ := (Option.bind_some _ _).symm.trans H; rw [hy295]; with_reducible exact H2_) | (have H2_ := (Option.bind_some _ _).symm.trans H; with_reducible exact H2_) | with_reducible exact H | (rw [hy295]; exact H) | exact H
                have Ny295 := Aside0.mk hy295
                clear hy295
                have H' := Aside0.mk H
                clear H
                have p289 : 0 ≤ (x4_1 : Int) := of_decide_eq_true (by first | (with_reducible assumption) | assumption)
                have q289 : x4_1 < (l0.length : Int) := of_decide_eq_true (by first | (with_reducible assumption) | assumption)
                obtain ⟨ad289, e289, hx289_0, hx289_1, hx289_2, hx289_3, hx289_4⟩ := at_T122 HR0.out x4_1 p289 q289
                cases e289
                replace hx289_0 := (HB.out.cell (World.block_lt_of_cell? w _ hx289_0)).trans hx289_0
                replace hx289_1 := (HB.out.cell (World.block_lt_of_cell? w _ hx289_1)).trans hx289_1
                replace hx289_2 := (HB.out.cell (World.block_lt_of_cell? w _ hx289_2)).trans hx289_2
                replace hx289_3 := (HB.out.cell (World.block_lt_of_cell? w _ hx289_3)).trans hx289_3
                replace hx289_4 := (HB.out.cell (World.block_lt_of_cell? w _ hx289_4)).trans hx289_4
                replace p289 := eq_true p289
                replace q289 := eq_true q289
                go_wp2_with (first | ((with_reducible refine gate_callee (f := 119) rfl ?_); refine goesL_ (some 20) rfl rfl Try.func119 (by kernel_rfl) rfl #[.agg #[.int .i64 ((rd_T122 l0 x4_1).f0), .int .i64 ((rd_T122 l0 x4_1).f1.f0), .int .i64 ((rd_T122 l0 x4_1).f1.f1), .int .i64 ((rd_T122 l0 x4_1).f1.f2), .int .i64 ((rd_T122 l0 x4_1).f1.f3)]] rfl (by (try simp only [List.map_toArray, List.map_cons, List.map_nil]); first | done | rfl | (simp only [List.length_drop, List.length_take]; rfl)) ?_; (with_reducible refine (laws_toEntry.calls ((rd_T122 l0 x4_1).f0) ((rd_T122 l0 x4_1).f1.f0) ((rd_T122 l0 x4_1).f1.f1) ((rd_T122 l0 x4_1).f1.f2) ((rd_T122 l0 x4_1).f1.f3) t290 t291 t292 t293 t294 _ A8.out).mono ?_); rintro e w11 ⟨rfl, hb⟩; refine ⟨_, rfl, ?_⟩; have n0_ := Aside0.mk (Kd.R_below (by (with_reducible repeat (first | apply Kd.R_alloc | apply Kd.R_drewN | apply Kd.R_drew)); exact HO_3.out) hb); have n1_ := Aside0.mk (below_step (by repeat (first | (with_reducible first | exact HB.out | apply below_alloc | apply pw_below_drewN | apply below_drew1) | exact HB.out)) hb); clear HO_3; clear HB; have HO_3 := n0_; have HB := n1_; clear n0_ n1_; (try clear hb); (try clear hb2); (try clear hk); (try clear hi); have p10 : 0 ≤ (x4_1 : Int) := of_decide_eq_true (by first | (with_reducible assumption) | assumption); have q10 : (x4_1 : Int) < ((x3_1.length : Int) : Int) := of_decide_eq_true (by first | (with_reducible assumption) | assumption); obtain ⟨go10, co10, eo10, gb10, gl10, cl10, HG10⟩ := Kd.R_form HO_3.out (by omega); (first | cases eo10 | (injection eo10 with ea_ en_ ec_; (first | subst ea_ | (injection ea_ with ea_; subst ea_)); subst ec_; clear en_)); have GB10 := Aside0.mk gb10; have GG10 := Aside0.mk HG10; clear gb10 gl10 HG10; obtain ⟨ce10, hcl10, hM10, hcc10, hfr10⟩ := Kd.R_elem HO_3.out z103 (x4_1 : Int) p10 q10; obtain rfl := k103_openM hM10; have hx10_0 : w11.cell? ⟨go10, (x4_1 : Int).toNat * 5, none⟩ = some (.int .i64 ((rd_T103 x3_1 x4_1).f0)) := hcc10 0 _ rfl; have hx10_1 : w11.cell? ⟨go10, (x4_1 : Int).toNat * 5 + 1, none⟩ = some (.int .i64 ((rd_T103 x3_1 x4_1).f1.f0)) := hcc10 1 _ rfl; have hx10_2 : w11.cell? ⟨go10, (x4_1 : Int).toNat * 5 + 2, none⟩ = some (.int .i64 ((rd_T103 x3_1 x4_1).f1.f1)) := hcc10 2 _ rfl; have hx10_3 : w11.cell? ⟨go10, (x4_1 : Int).toNat * 5 + 3, none⟩ = some (.int .i64 ((rd_T103 x3_1 x4_1).f1.f2)) := hcc10 3 _ rfl; have hx10_4 : w11.cell? ⟨go10, (x4_1 : Int).toNat * 5 + 4, none⟩ = some (.int .i64 ((rd_T103 x3_1 x4_1).f1.f3)) := hcc10 4 _ rfl; have hf10_0 : w11.frozen? ⟨go10, (x4_1 : Int).toNat * 5, none⟩ = false := hfr10 0; have hf10_1 : w11.frozen? ⟨go10, (x4_1 : Int).toNat * 5 + 1, none⟩ = false := hfr10 1; have hf10_2 : w11.frozen? ⟨go10, (x4_1 : Int).toNat * 5 + 2, none⟩ = false := hfr10 2; have hf10_3 : w11.frozen? ⟨go10, (x4_1 : Int).toNat * 5 + 3, none⟩ = false := hfr10 3; have hf10_4 : w11.frozen? ⟨go10, (x4_1 : Int).toNat * 5 + 4, none⟩ = false := hfr10 4; clear hcl10 hcc10 hfr10 hM10; replace p10 := eq_true p10; replace q10 := eq_true q10; have HX12 := Aside0.mk (show Kd.R k103 103 w11 w.heap.size (fun _ => True) (.slice (some ⟨go10, 0, none⟩) x3_1.length co10) x3_1 from (by (with_reducible repeat (first | apply Kd.R_alloc | apply Kd.R_drewN | apply Kd.R_drew)); exact HO_3.out)); obtain ⟨ce12, hcl12, hM12, hcc12, hfr12⟩ := Kd.R_elem HX12.out z103 (x4_1 : Int) (of_decide_eq_true (by first | (with_reducible assumption) | assumption)) (by have h_ : (x4_1 : Int) < ((x3_1.length : Int) : Int) := of_decide_eq_true (by first | (with_reducible assumption) | assumption); first | exact h_ | (have e_ := (Kd.R_reads' HO_3.out).1; omega) | simpa using h_); obtain rfl := k103_openM hM12; have HP12 := Kd.R_seg HX12.out (x4_1 : Int) (of_decide_eq_true (by first | (with_reducible assumption) | assumption)) (by have h_ : (x4_1 : Int) < ((x3_1.length : Int) : Int) := of_decide_eq_true (by first | (with_reducible assumption) | assumption); first | exact h_ | (have e_ := (Kd.R_reads' HO_3.out).1; omega) | simpa using h_) (seg := [.int .i64 t290, .int .i64 t291, .int .i64 t292, .int .i64 t293, .int .i64 t294]) (j := 0) hcl12 hcc12 (show 5 ≤ 5 from by decide) (x' := (⟨t290, (⟨t291, t292, t293, t294⟩ : S32)⟩ : S103)) (k103_mkM _ _ _ (⟨t290, (⟨t291, t292, t293, t294⟩ : S32)⟩ : S103) ) (fun _ hk => hk); have hx12_0 := hcc12 0 _ rfl; (try simp only [show (k103).sz = 5 from rfl, Nat.mul_one, Nat.add_zero] at hx12_0); have hf12_0 := hfr12 0; (try simp only [show (k103).sz = 5 from rfl, Nat.mul_one, Nat.add_zero] at hf12_0); have hx12_1 := hcc12 1 _ rfl; (try simp only [show (k103).sz = 5 from rfl, Nat.mul_one, Nat.add_zero] at hx12_1); have hf12_1 := hfr12 1; (try simp only [show (k103).sz = 5 from rfl, Nat.mul_one, Nat.add_zero] at hf12_1); have hx12_2 := hcc12 2 _ rfl; (try simp only [show (k103).sz = 5 from rfl, Nat.mul_one, Nat.add_zero] at hx12_2); have hf12_2 := hfr12 2; (try simp only [show (k103).sz = 5 from rfl, Nat.mul_one, Nat.add_zero] at hf12_2); have hx12_3 := hcc12 3 _ rfl; (try simp only [show (k103).sz = 5 from rfl, Nat.mul_one, Nat.add_zero] at hx12_3); have hf12_3 := hfr12 3; (try simp only [show (k103).sz = 5 from rfl, Nat.mul_one, Nat.add_zero] at hf12_3); have hx12_4 := hcc12 4 _ rfl; (try simp only [show (k103).sz = 5 from rfl, Nat.mul_one, Nat.add_zero] at hx12_4); have hf12_4 := hfr12 4; (try simp only [show (k103).sz = 5 from rfl, Nat.mul_one, Nat.add_zero] at hf12_4); clear hcl12 hcc12 hfr12 hM12) | ((with_reducible refine gate_store (t := 103) (p := 21) rfl ?_); refine store_event (t := 103) (p := 21) (v := ?vo_w13) (w1 := (((((w11.setCell ⟨go10, (x4_1 : Int).toNat * 5, none⟩ (.int .i64 t290)).setCell ⟨go10, (x4_1 : Int).toNat * 5 + 1, none⟩ (.int .i64 t291)).setCell ⟨go10, (x4_1 : Int).toNat * 5 + 2, none⟩ (.int .i64 t292)).setCell ⟨go10, (x4_1 : Int).toNat * 5 + 3, none⟩ (.int .i64 t293)).setCell ⟨go10, (x4_1 : Int).toNat * 5 + 4, none⟩ (.int .i64 t294))) ?hg ?ho ?hn ?hr ?_; (case ho => rfl); (case hg => rfl); (case hn => rfl); (case hr => first | (go_simp; done) | (go_simp; rfl)); intro w13 hw; have hg : w11.grownBy w13 (some go10) := (by rw [hw]; exact HP12.2); have hp_ : Kd.R k103 103 w13 w.heap.size (fun _ => True) (.slice (some ⟨go10, 0, none⟩) x3_1.length co10) y295 := (by rw [hw, Ny295.out]; exact HP12.1); clear HP12; have n0_ := Aside0.mk (hp_); have n1_ := Aside0.mk ((by rw [hw]; exact below_set (below_set (below_set (below_set (below_set (HB.out) GB10.out) GB10.out) GB10.out) GB10.out) GB10.out : Below w.heap.size w w13)); clear HO_3; clear HB; have HO_3 := n0_; have HB := n1_; clear n0_ n1_; clear hg hw hp_))
                go_roundg k1
                case measure => have := HK1.out; omega
                case rel => exact ⟨(y295), (wrap64 (x4_1 + 1)), (by first | rfl | (simp; done) | (simp [*]; done)), H', ⟨by have := HK1.out; omega⟩, ⟨by (with_reducible repeat (first | apply Kd.R_alloc | apply Kd.R_drewN | apply Kd.R_drew)); exact HO_3.out⟩, ⟨by repeat (first | (with_reducible first | exact HB.out | apply below_alloc | apply pw_below_drewN | apply below_drew1) | exact HB.out)⟩⟩
              · rw [if_neg c9] at H
                exact absurd H (by simp)
            · rw [if_neg c7] at H
              exact absurd H (by simp)
          · rw [if_neg c6] at H
            have c6b0 : decide (x4_1 < (l0.length : Int)) = false := decide_eq_false c6
            clear c6
            obtain rfl := Option.some.inj H
            go_wp2
            go_ret
            exact ⟨_, by first | rfl | (simp [errW_none, errW_some] <;> rfl) | (simp [*, errW_none, errW_some] <;> rfl), by (with_reducible repeat (first | apply Kd.R_alloc | apply Kd.R_drewN | apply Kd.R_drew)); exact HO_3.out, by repeat (first | (with_reducible first | exact HB.out | apply below_alloc | apply pw_below_drewN | apply below_drew1) | exact HB.out)⟩
    · rw [if_neg c3] at H
      exact absurd H (by simp)
  · rw [if_neg c2] at H
    exact absurd H (by simp)

end Go.Proofs.Ytngjaajcdbodeaa.All

namespace Go.Proofs.Ytngjaajcdbodeaa.All
open Go.RowKit Go.Proofs.YtngjaajcdbodeaaW.PrintWords Go.Proofs.YtngjaajcdbodeaaW.PrintLast Go.Proofs.YtngjaajcdbodeaaW.PrintMore
attribute [local go_sem] max2_int min2_int max_two min_two max_three min_three max_four min_four   -- for this text's walks alone
set_option linter.unusedVariables false
set_option linter.unusedSimpArgs false

/-! ### laws_toNode: function 27 -/
def laws_toNode.f (k : Nat) (a0_0 : Bool) (l0_1 : List (S122)) : Option (Bool × (List (S103))) := (laws_toEntryS.f k l0_1).bind fun t299 => (some (a0_0, t299))
theorem laws_toNode.mono : ∀ a0 a1 k, LeO (laws_toNode.f k a0 a1) (laws_toNode.f (k + 1) a0 a1) := by
  intro a0 a1 k
  unfold laws_toNode.f
  repeat' first
      | (with_reducible exact laws_toEntryS.mono _ _)
      | (with_reducible exact LeO.refl _)
      | (with_reducible exact LeO.none _)
      | (with_reducible refine LeO.ite ?_ ?_)
      | (with_reducible refine LeO.bind ?_ (fun _ => ?_))
      | exact laws_toEntryS.mono _ _
      | exact LeO.none _
      | refine LeO.ite ?_ ?_
      | refine LeO.bind ?_ (fun _ => ?_)
set_option maxHeartbeats 8000000 in
set_option maxRecDepth 100000 in
theorem laws_toNode.calls (k : Nat) (a0_0 : Bool) (A0_1 : Option Addr) (c0_1 : Nat) (l0_1 : List (S122)) (r1 : Bool) (r2 : List (S103)) (w : World) (hr0_1 : Kd.C k122 w A0_1 l0_1.length l0_1) (hc0_1 : l0_1.length ≤ c0_1) (h : laws_toNode.f k a0_0 l0_1 = some (r1, r2)) :
    Calls Try.prog 27 #[.agg #[.bool a0_0, .slice A0_1 l0_1.length c0_1]] w fun e w' => ∃ v1_ : Value, e = .returned (.agg #[.bool r1, v1_]) ∧ Kd.R k103 103 w' w.heap.size (fun _ => True) v1_ r2 ∧ Below w.heap.size w w' := by
  have hu44 := Try.underlying44
  have hu54 := Try.underlying54
  have HR0_1 := Aside0.mk hr0_1
  have HC0_1 := Aside0.mk hc0_1
  clear hr0_1 hc0_1
  have HB := Aside0.mk (Below.refl w.heap.size w)
  have H : ((laws_toEntryS.f k l0_1).bind fun t299 => (some (a0_0, t299))) = some (r1, r2) := h
  clear h
  replace H := Option.bind_eq_some_iff.mp H
  obtain ⟨t299, A20, H⟩ := H
  replace H : (some (a0_0, t299)) = some (r1, r2) := H
  have A2 := Aside0.mk A20
  clear A20
  simp only [Option.some.injEq, Prod.mk.injEq] at H
  obtain ⟨rfl, rfl⟩ := H
  go_enter Try.func27, Try.ntmps27
  go_wp2_with (first | ((with_reducible refine gate_dst (N := 1) rfl ?_); refine box_event ?hg (N := 1) ?hd (cs := #[.bool a0_0, .slice A0_1 l0_1.length c0_1]) (t := 44) ?hr ?_; (case hd => rfl); (case hg => rfl); (case hr => first | (go_simp; done) | (go_simp; rfl)); intro gb296 hg w3 hbox hb; have n0_ := Aside0.mk (below_step (by repeat (first | (with_reducible first | exact HB.out | apply below_alloc | apply pw_below_drewN | apply below_drew1) | exact HB.out)) hb); have n1_ := Aside0.mk (hbox); have n2_ := Aside0.mk ((by rw [hg]; exact (below_size (by repeat (first | (with_reducible first | exact HB.out | apply below_alloc | apply pw_below_drewN | apply below_drew1) | exact HB.out))) : w.heap.size ≤ gb296)); have n3_ := Aside0.mk ((by rw [hg]; exact (below_size (by repeat (first | (with_reducible first | exact HB.out | apply below_alloc | apply pw_below_drewN | apply below_drew1) | exact HB.out))) : w.heap.size ≤ gb296)); clear HB; have HB := n0_; have BK296 := n1_; have GW296 := n2_; have GE296 := n3_; clear n0_ n1_ n2_ n3_; clear hb hbox hg) | ((with_reducible refine gate_dst (N := 2) rfl ?_); refine box_event ?hg (N := 2) ?hd (cs := #[.bool false, .slice none 0 0]) (t := 54) ?hr ?_; (case hd => rfl); (case hg => rfl); (case hr => first | (go_simp; done) | (go_simp; rfl)); intro gb297 hg w4 hbox hb; have n0_ := Aside0.mk (blk_below (g := gb296) (o := .cells #[.bool a0_0, .slice A0_1 l0_1.length c0_1] 44 (0, 0)) (by (with_reducible repeat (first | refine blk_drewN ?_ _ | refine blk_drew ?_ | refine blk_alloc ?_ _)); exact BK296.out) hb); have n1_ := Aside0.mk (below_step (by repeat (first | (with_reducible first | exact HB.out | apply below_alloc | apply pw_below_drewN | apply below_drew1 | refine below_set ?_ GE296.out) | exact HB.out)) hb); have n2_ := Aside0.mk (hbox); have n3_ := Aside0.mk ((by rw [hg]; exact (below_size (by repeat (first | (with_reducible first | exact HB.out | apply below_alloc | apply pw_below_drewN | apply below_drew1 | refine below_set ?_ GE296.out) | exact HB.out))) : w.heap.size ≤ gb297)); have n4_ := Aside0.mk ((by rw [hg]; exact (below_size (by repeat (first | (with_reducible first | exact HB.out | apply below_alloc | apply pw_below_drewN | apply below_drew1 | refine below_set ?_ GE296.out) | exact HB.out))) : w.heap.size ≤ gb297)); have n5_ := Aside0.mk ((by rw [hg]; exact Nat.ne_of_lt (blk_lt (g := gb296) (o := .cells #[.bool a0_0, .slice A0_1 l0_1.length c0_1] 44 (0, 0)) (by (with_reducible repeat (first | refine blk_drewN ?_ _ | refine blk_drew ?_ | refine blk_alloc ?_ _)); exact BK296.out)) : gb296 ≠ gb297)); have n6_ := Aside0.mk ((by rw [hg]; exact Nat.ne_of_gt (blk_lt (g := gb296) (o := .cells #[.bool a0_0, .slice A0_1 l0_1.length c0_1] 44 (0, 0)) (by (with_reducible repeat (first | refine blk_drewN ?_ _ | refine blk_drew ?_ | refine blk_alloc ?_ _)); exact BK296.out)) : gb297 ≠ gb296)); clear BK296; clear HB; have BK296 := n0_; have HB := n1_; have BK297 := n2_; have GW297 := n3_; have GE297 := n4_; have NB296_297 := n5_; have NB297_296 := n6_; clear n0_ n1_ n2_ n3_ n4_ n5_ n6_; clear hb hbox hg) | ((with_reducible refine gate_dst (N := 3) rfl ?_); refine box_event ?hg (N := 3) ?hd (cs := #[.bool false, .slice none 0 0]) (t := 54) ?hr ?_; (case hd => rfl); (case hg => rfl); (case hr => first | (go_simp; done) | (go_simp; rfl)); intro gb298 hg w5 hbox hb; have n0_ := Aside0.mk (blk_below (g := gb296) (o := .cells #[.bool a0_0, .slice A0_1 l0_1.length c0_1] 44 (0, 0)) (by (with_reducible repeat (first | refine blk_drewN ?_ _ | refine blk_drew ?_ | refine blk_alloc ?_ _)); exact BK296.out) hb); have n1_ := Aside0.mk (blk_below (g := gb297) (o := .cells #[.bool false, .slice none 0 0] 54 (0, 0)) (by (with_reducible repeat (first | refine blk_drewN ?_ _ | refine blk_drew ?_ | refine blk_alloc ?_ _)); exact BK297.out) hb); have n2_ := Aside0.mk (below_step (by repeat (first | (with_reducible first | exact HB.out | apply below_alloc | apply pw_below_drewN | apply below_drew1 | refine below_set ?_ GE296.out | refine below_set ?_ GE297.out) | exact HB.out)) hb); have n3_ := Aside0.mk (hbox); have n4_ := Aside0.mk ((by rw [hg]; exact (below_size (by repeat (first | (with_reducible first | exact HB.out | apply below_alloc | apply pw_below_drewN | apply below_drew1 | refine below_set ?_ GE296.out | refine below_set ?_ GE297.out) | exact HB.out))) : w.heap.size ≤ gb298)); have n5_ := Aside0.mk ((by rw [hg]; exact (below_size (by repeat (first | (with_reducible first | exact HB.out | apply below_alloc | apply pw_below_drewN | apply below_drew1 | refine below_set ?_ GE296.out | refine below_set ?_ GE297.out) | exact HB.out))) : w.heap.size ≤ gb298)); have n6_ := Aside0.mk ((by rw [hg]; exact Nat.ne_of_lt (blk_lt (g := gb296) (o := .cells #[.bool a0_0, .slice A0_1 l0_1.length c0_1] 44 (0, 0)) (by (with_reducible repeat (first | refine blk_drewN ?_ _ | refine blk_drew ?_ | refine blk_alloc ?_ _)); exact BK296.out)) : gb296 ≠ gb298)); have n7_ := Aside0.mk ((by rw [hg]; exact Nat.ne_of_gt (blk_lt (g := gb296) (o := .cells #[.bool a0_0, .slice A0_1 l0_1.length c0_1] 44 (0, 0)) (by (with_reducible repeat (first | refine blk_drewN ?_ _ | refine blk_drew ?_ | refine blk_alloc ?_ _)); exact BK296.out)) : gb298 ≠ gb296)); have n8_ := Aside0.mk ((by rw [hg]; exact Nat.ne_of_lt (blk_lt (g := gb297) (o := .cells #[.bool false, .slice none 0 0] 54 (0, 0)) (by (with_reducible repeat (first | refine blk_drewN ?_ _ | refine blk_drew ?_ | refine blk_alloc ?_ _)); exact BK297.out)) : gb297 ≠ gb298)); have n9_ := Aside0.mk ((by rw [hg]; exact Nat.ne_of_gt (blk_lt (g := gb297) (o := .cells #[.bool false, .slice none 0 0] 54 (0, 0)) (by (with_reducible repeat (first | refine blk_drewN ?_ _ | refine blk_drew ?_ | refine blk_alloc ?_ _)); exact BK297.out)) : gb298 ≠ gb297)); clear BK296; clear BK297; clear HB; have BK296 := n0_; have BK297 := n1_; have HB := n2_; have BK298 := n3_; have GW298 := n4_; have GE298 := n5_; have NB296_298 := n6_; have NB298_296 := n7_; have NB297_298 := n8_; have NB298_297 := n9_; clear n0_ n1_ n2_ n3_ n4_ n5_ n6_ n7_ n8_ n9_; clear hb hbox hg; have hnb6 := NB296_297.out; have hnc6 := NB297_296.out; have hnb7 := NB296_298.out; have hnc7 := NB298_296.out; have hcz8_0 : w5.cell? ⟨gb296, 0, none⟩ = some (.bool a0_0) := (blk_cell BK296.out 0).trans rfl; have hcz8_1 : w5.cell? ⟨gb296, 1, none⟩ = some (.slice A0_1 l0_1.length c0_1) := (blk_cell BK296.out 1).trans rfl; have hfz8_0 := blk_frozen BK296.out 0; have hfz8_1 := blk_frozen BK296.out 1; have hnb9 := NB298_297.out; have hnc9 := NB297_298.out; have hcz10_0 : w5.cell? ⟨gb298, 0, none⟩ = some (.bool false) := (blk_cell BK298.out 0).trans rfl; have hcz10_1 : w5.cell? ⟨gb298, 1, none⟩ = some (.slice none 0 0) := (blk_cell BK298.out 1).trans rfl; have hfz10_0 := blk_frozen BK298.out 0; have hfz10_1 := blk_frozen BK298.out 1) | ((with_reducible refine gate_callee (f := 75) rfl ?_); refine goesL_ (some 9) rfl rfl Try.func75 (by kernel_rfl) rfl #[.slice A0_1 l0_1.length c0_1] rfl (by (try simp only [List.map_toArray, List.map_cons, List.map_nil]); first | done | rfl | (simp only [List.length_drop, List.length_take]; rfl)) ?_; (with_reducible refine (laws_toEntryS.calls k _ _ l0_1 t299 _ ?side1 ?side2 A2.out).mono ?_); (case side1 => exact Kd.C_below HR0_1.out (by repeat (first | (with_reducible first | exact HB.out | apply below_alloc | apply pw_below_drewN | apply below_drew1 | refine below_set ?_ GE296.out | refine below_set ?_ GE297.out | refine below_set ?_ GE298.out) | exact HB.out))); (case side2 => exact HC0_1.out); rintro e w11 ⟨v300, rfl, ho0, hb⟩; refine ⟨_, rfl, ?_⟩; have n0_ := Aside0.mk (Kd.R_lower ho0 (below_size (by repeat (first | (with_reducible first | exact HB.out | apply below_alloc | apply pw_below_drewN | apply below_drew1 | refine below_set ?_ GE296.out | refine below_set ?_ GE297.out | refine below_set ?_ GE298.out) | exact HB.out)))); have n1_ := Aside0.mk (blk_below (g := gb296) (o := .cells #[.bool a0_0, .slice A0_1 l0_1.length c0_1] 44 (0, 0)) (by (with_reducible repeat (first | refine blk_drewN ?_ _ | refine blk_drew ?_ | refine blk_alloc ?_ _)); refine blk_far ?_ NB296_298.out _; (with_reducible repeat (first | refine blk_drewN ?_ _ | refine blk_drew ?_ | refine blk_alloc ?_ _)); exact BK296.out) hb); have n2_ := Aside0.mk (blk_below (g := gb297) (o := .cells #[.bool false, .slice none 0 0] 54 (0, 0)) (by (with_reducible repeat (first | refine blk_drewN ?_ _ | refine blk_drew ?_ | refine blk_alloc ?_ _)); refine blk_far ?_ NB297_298.out _; (with_reducible repeat (first | refine blk_drewN ?_ _ | refine blk_drew ?_ | refine blk_alloc ?_ _)); exact BK297.out) hb); have n3_ := Aside0.mk (blk_below (g := gb298) (o := .cells #[.bool a0_0, .slice none 0 0] 54 (0, 0)) (by (with_reducible repeat (first | refine blk_drewN ?_ _ | refine blk_drew ?_ | refine blk_alloc ?_ _)); refine blk_put (cs := #[.bool false, .slice none 0 0]) ?_ 0 _ rfl; (with_reducible repeat (first | refine blk_drewN ?_ _ | refine blk_drew ?_ | refine blk_alloc ?_ _)); exact BK298.out) hb); have n4_ := Aside0.mk (below_step (by repeat (first | (with_reducible first | exact HB.out | apply below_alloc | apply pw_below_drewN | apply below_drew1 | refine below_set ?_ GE296.out | refine below_set ?_ GE297.out | refine below_set ?_ GE298.out) | exact HB.out)) hb); clear BK296; clear BK297; clear BK298; clear HB; have HO301 := n0_; have BK296 := n1_; have BK297 := n2_; have BK298 := n3_; have HB := n4_; clear n0_ n1_ n2_ n3_ n4_; (try clear hb); (try clear hb2); (try clear hk); (try clear hi); (try clear ho0); obtain ⟨Ao12, co12, eo12⟩ := Kd.R_slice HO301.out; subst eo12; have hcz13_0 : w11.cell? ⟨gb298, 0, none⟩ = some (.bool a0_0) := (blk_cell BK298.out 0).trans rfl; have hcz13_1 : w11.cell? ⟨gb298, 1, none⟩ = some (.slice none 0 0) := (blk_cell BK298.out 1).trans rfl; have hfz13_0 := blk_frozen BK298.out 0; have hfz13_1 := blk_frozen BK298.out 1; have hcz14_0 : w11.cell? ⟨gb297, 0, none⟩ = some (.bool false) := (blk_cell BK297.out 0).trans rfl; have hcz14_1 : w11.cell? ⟨gb297, 1, none⟩ = some (.slice none 0 0) := (blk_cell BK297.out 1).trans rfl; have hfz14_0 := blk_frozen BK297.out 0; have hfz14_1 := blk_frozen BK297.out 1))
  refine bodyPost_ret (results_cell_row rfl _ _ gb297 54 #[.bool a0_0, .slice Ao12 t299.length co12] (0, 0) _ rfl (by (with_reducible repeat (first | refine blk_drewN ?_ _ | refine blk_drew ?_ | refine blk_alloc ?_ _)); refine blk_put (cs := #[.bool a0_0, .slice none 0 0]) ?_ 1 _ rfl; (with_reducible repeat (first | refine blk_drewN ?_ _ | refine blk_drew ?_ | refine blk_alloc ?_ _)); refine blk_put (cs := #[.bool false, .slice none 0 0]) ?_ 0 _ rfl; (with_reducible repeat (first | refine blk_drewN ?_ _ | refine blk_drew ?_ | refine blk_alloc ?_ _)); refine blk_far ?_ NB297_298.out _; (with_reducible repeat (first | refine blk_drewN ?_ _ | refine blk_drew ?_ | refine blk_alloc ?_ _)); exact BK297.out) Try.underlying54 rfl (by kernel_rfl)) rfl ?_
  exact ⟨_, by first | rfl | (simp [errW_none, errW_some] <;> rfl) | (simp [*, errW_none, errW_some] <;> rfl), by (with_reducible repeat (first | apply Kd.R_alloc | apply Kd.R_drewN | apply Kd.R_drew)); exact Kd.R_mono (Kd.R_far (p := ⟨gb297, 1, none⟩) (Kd.R_far (p := ⟨gb297, 0, none⟩) (Kd.R_far (p := ⟨gb298, 1, none⟩) (Kd.R_types (Kd.R_types HO301.out BK298.out (by decide)) BK297.out (by decide)) (fun _ hk => hk.1.2) (.slice Ao12 t299.length co12)) (fun _ hk => hk.2) (.bool a0_0)) (fun _ hk => hk.2) (.slice Ao12 t299.length co12)) (fun _ hk => trivial), by repeat (first | (with_reducible first | exact HB.out | apply below_alloc | apply pw_below_drewN | apply below_drew1 | refine below_set ?_ GE296.out | refine below_set ?_ GE297.out | refine below_set ?_ GE298.out) | exact HB.out)⟩

end Go.Proofs.Ytngjaajcdbodeaa.All

namespace Go.Proofs.Ytngjaajcdbodeaa.All
open Go.RowKit Go.Proofs.YtngjaajcdbodeaaW.PrintWords Go.Proofs.YtngjaajcdbodeaaW.PrintLast Go.Proofs.YtngjaajcdbodeaaW.PrintMore
attribute [local go_sem] max2_int min2_int max_two min_two max_three min_three max_four min_four   -- for this text's walks alone
set_option linter.unusedVariables false
set_option linter.unusedSimpArgs false

/-! ### laws_toPage: function 118 -/
def laws_toPage.f (k : Nat) (a0_0 : Bool) (a0_1 : Bool) (l0_2 : List (S122)) : Option (Bool × Bool × (List (S103))) := (laws_toNode.f k a0_1 l0_2).bind fun bt305 => (some (a0_0, bt305.1, bt305.2))
theorem laws_toPage.mono : ∀ a0 a1 a2 k, LeO (laws_toPage.f k a0 a1 a2) (laws_toPage.f (k + 1) a0 a1 a2) := by
  intro a0 a1 a2 k
  unfold laws_toPage.f
  repeat' first
      | (with_reducible exact laws_toNode.mono _ _ _)
      | (with_reducible exact LeO.refl _)
      | (with_reducible exact LeO.none _)
      | (with_reducible refine LeO.ite ?_ ?_)
      | (with_reducible refine LeO.bind ?_ (fun _ => ?_))
      | exact laws_toNode.mono _ _ _
      | exact LeO.none _
      | refine LeO.ite ?_ ?_
      | refine LeO.bind ?_ (fun _ => ?_)
set_option maxHeartbeats 8000000 in
set_option maxRecDepth 100000 in
theorem laws_toPage.calls (k : Nat) (a0_0 : Bool) (a0_1 : Bool) (A0_2 : Option Addr) (c0_2 : Nat) (l0_2 : List (S122)) (r1 : Bool) (r2 : Bool) (r3 : List (S103)) (w : World) (hr0_2 : Kd.C k122 w A0_2 l0_2.length l0_2) (hc0_2 : l0_2.length ≤ c0_2) (h : laws_toPage.f k a0_0 a0_1 l0_2 = some (r1, r2, r3)) :
    Calls Try.prog 118 #[.agg #[.bool a0_0, .bool a0_1, .slice A0_2 l0_2.length c0_2]] w fun e w' => ∃ v2_ : Value, e = .returned (.agg #[.bool r1, .bool r2, v2_]) ∧ Kd.R k103 103 w' w.heap.size (fun _ => True) v2_ r3 ∧ Below w.heap.size w w' := by
  have hu118 := Try.underlying118
  have hu90 := Try.underlying90
  have hu44 := Try.underlying44
  have hu54 := Try.underlying54
  have HR0_2 := Aside0.mk hr0_2
  have HC0_2 := Aside0.mk hc0_2
  clear hr0_2 hc0_2
  have HB := Aside0.mk (Below.refl w.heap.size w)
  have H : ((laws_toNode.f k a0_1 l0_2).bind fun bt305 => (some (a0_0, bt305.1, bt305.2))) = some (r1, r2, r3) := h
  clear h
  replace H := Option.bind_eq_some_iff.mp H
  obtain ⟨⟨t305, t306⟩, A20, H⟩ := H
  replace H : (some (a0_0, t305, t306)) = some (r1, r2, r3) := H
  have A2 := Aside0.mk A20
  clear A20
  simp only [Option.some.injEq, Prod.mk.injEq] at H
  obtain ⟨rfl, rfl, rfl⟩ := H
  go_enter Try.func118, Try.ntmps118
  go_wp2_with (first | ((with_reducible refine gate_dst (N := 1) rfl ?_); refine box_event ?hg (N := 1) ?hd (cs := #[.bool a0_0, .bool a0_1, .slice A0_2 l0_2.length c0_2]) (t := 118) ?hr ?_; (case hd => rfl); (case hg => rfl); (case hr => first | (go_simp; done) | (go_simp; rfl)); intro gb302 hg w3 hbox hb; have n0_ := Aside0.mk (below_step (by repeat (first | (with_reducible first | exact HB.out | apply below_alloc | apply pw_below_drewN | apply below_drew1) | exact HB.out)) hb); have n1_ := Aside0.mk (hbox); have n2_ := Aside0.mk ((by rw [hg]; exact (below_size (by repeat (first | (with_reducible first | exact HB.out | apply below_alloc | apply pw_below_drewN | apply below_drew1) | exact HB.out))) : w.heap.size ≤ gb302)); have n3_ := Aside0.mk ((by rw [hg]; exact (below_size (by repeat (first | (with_reducible first | exact HB.out | apply below_alloc | apply pw_below_drewN | apply below_drew1) | exact HB.out))) : w.heap.size ≤ gb302)); clear HB; have HB := n0_; have BK302 := n1_; have GW302 := n2_; have GE302 := n3_; clear n0_ n1_ n2_ n3_; clear hb hbox hg) | ((with_reducible refine gate_dst (N := 2) rfl ?_); refine box_event ?hg (N := 2) ?hd (cs := #[.bool false, .bool false, .slice none 0 0]) (t := 90) ?hr ?_; (case hd => rfl); (case hg => rfl); (case hr => first | (go_simp; done) | (go_simp; rfl)); intro gb303 hg w4 hbox hb; have n0_ := Aside0.mk (blk_below (g := gb302) (o := .cells #[.bool a0_0, .bool a0_1, .slice A0_2 l0_2.length c0_2] 118 (0, 0)) (by (with_reducible repeat (first | refine blk_drewN ?_ _ | refine blk_drew ?_ | refine blk_alloc ?_ _)); exact BK302.out) hb); have n1_ := Aside0.mk (below_step (by repeat (first | (with_reducible first | exact HB.out | apply below_alloc | apply pw_below_drewN | apply below_drew1 | refine below_set ?_ GE302.out) | exact HB.out)) hb); have n2_ := Aside0.mk (hbox); have n3_ := Aside0.mk ((by rw [hg]; exact (below_size (by repeat (first | (with_reducible first | exact HB.out | apply below_alloc | apply pw_below_drewN | apply below_drew1 | refine below_set ?_ GE302.out) | exact HB.out))) : w.heap.size ≤ gb303)); have n4_ := Aside0.mk ((by rw [hg]; exact (below_size (by repeat (first | (with_reducible first | exact HB.out | apply below_alloc | apply pw_below_drewN | apply below_drew1 | refine below_set ?_ GE302.out) | exact HB.out))) : w.heap.size ≤ gb303)); have n5_ := Aside0.mk ((by rw [hg]; exact Nat.ne_of_lt (blk_lt (g := gb302) (o := .cells #[.bool a0_0, .bool a0_1, .slice A0_2 l0_2.length c0_2] 118 (0, 0)) (by (with_reducible repeat (first | refine blk_drewN ?_ _ | refine blk_drew ?_ | refine blk_alloc ?_ _)); exact BK302.out)) : gb302 ≠ gb303)); have n6_ := Aside0.mk ((by rw [hg]; exact Nat.ne_of_gt (blk_lt (g := gb302) (o := .cells #[.bool a0_0, .bool a0_1, .slice A0_2 l0_2.length c0_2] 118 (0, 0)) (by (with_reducible repeat (first | refine blk_drewN ?_ _ | refine blk_drew ?_ | refine blk_alloc ?_ _)); exact BK302.out)) : gb303 ≠ gb302)); clear BK302; clear HB; have BK302 := n0_; have HB := n1_; have BK303 := n2_; have GW303 := n3_; have GE303 := n4_; have NB302_303 := n5_; have NB303_302 := n6_; clear n0_ n1_ n2_ n3_ n4_ n5_ n6_; clear hb hbox hg) | ((with_reducible refine gate_dst (N := 3) rfl ?_); refine box_event ?hg (N := 3) ?hd (cs := #[.bool false, .bool false, .slice none 0 0]) (t := 90) ?hr ?_; (case hd => rfl); (case hg => rfl); (case hr => first | (go_simp; done) | (go_simp; rfl)); intro gb304 hg w5 hbox hb; have n0_ := Aside0.mk (blk_below (g := gb302) (o := .cells #[.bool a0_0, .bool a0_1, .slice A0_2 l0_2.length c0_2] 118 (0, 0)) (by (with_reducible repeat (first | refine blk_drewN ?_ _ | refine blk_drew ?_ | refine blk_alloc ?_ _)); exact BK302.out) hb); have n1_ := Aside0.mk (blk_below (g := gb303) (o := .cells #[.bool false, .bool false, .slice none 0 0] 90 (0, 0)) (by (with_reducible repeat (first | refine blk_drewN ?_ _ | refine blk_drew ?_ | refine blk_alloc ?_ _)); exact BK303.out) hb); have n2_ := Aside0.mk (below_step (by repeat (first | (with_reducible first | exact HB.out | apply below_alloc | apply pw_below_drewN | apply below_drew1 | refine below_set ?_ GE302.out | refine below_set ?_ GE303.out) | exact HB.out)) hb); have n3_ := Aside0.mk (hbox); have n4_ := Aside0.mk ((by rw [hg]; exact (below_size (by repeat (first | (with_reducible first | exact HB.out | apply below_alloc | apply pw_below_drewN | apply below_drew1 | refine below_set ?_ GE302.out | refine below_set ?_ GE303.out) | exact HB.out))) : w.heap.size ≤ gb304)); have n5_ := Aside0.mk ((by rw [hg]; exact (below_size (by repeat (first | (with_reducible first | exact HB.out | apply below_alloc | apply pw_below_drewN | apply below_drew1 | refine below_set ?_ GE302.out | refine below_set ?_ GE303.out) | exact HB.out))) : w.heap.size ≤ gb304)); have n6_ := Aside0.mk ((by rw [hg]; exact Nat.ne_of_lt (blk_lt (g := gb302) (o := .cells #[.bool a0_0, .bool a0_1, .slice A0_2 l0_2.length c0_2] 118 (0, 0)) (by (with_reducible repeat (first | refine blk_drewN ?_ _ | refine blk_drew ?_ | refine blk_alloc ?_ _)); exact BK302.out)) : gb302 ≠ gb304)); have n7_ := Aside0.mk ((by rw [hg]; exact Nat.ne_of_gt (blk_lt (g := gb302) (o := .cells #[.bool a0_0, .bool a0_1, .slice A0_2 l0_2.length c0_2] 118 (0, 0)) (by (with_reducible repeat (first | refine blk_drewN ?_ _ | refine blk_drew ?_ | refine blk_alloc ?_ _)); exact BK302.out)) : gb304 ≠ gb302)); have n8_ := Aside0.mk ((by rw [hg]; exact Nat.ne_of_lt (blk_lt (g := gb303) (o := .cells #[.bool false, .bool false, .slice none 0 0] 90 (0, 0)) (by (with_reducible repeat (first | refine blk_drewN ?_ _ | refine blk_drew ?_ | refine blk_alloc ?_ _)); exact BK303.out)) : gb303 ≠ gb304)); have n9_ := Aside0.mk ((by rw [hg]; exact Nat.ne_of_gt (blk_lt (g := gb303) (o := .cells #[.bool false, .bool false, .slice none 0 0] 90 (0, 0)) (by (with_reducible repeat (first | refine blk_drewN ?_ _ | refine blk_drew ?_ | refine blk_alloc ?_ _)); exact BK303.out)) : gb304 ≠ gb303)); clear BK302; clear BK303; clear HB; have BK302 := n0_; have BK303 := n1_; have HB := n2_; have BK304 := n3_; have GW304 := n4_; have GE304 := n5_; have NB302_304 := n6_; have NB304_302 := n7_; have NB303_304 := n8_; have NB304_303 := n9_; clear n0_ n1_ n2_ n3_ n4_ n5_ n6_ n7_ n8_ n9_; clear hb hbox hg; have hnb6 := NB302_303.out; have hnc6 := NB303_302.out; have hnb7 := NB302_304.out; have hnc7 := NB304_302.out; have hcz8_0 : w5.cell? ⟨gb302, 0, none⟩ = some (.bool a0_0) := (blk_cell BK302.out 0).trans rfl; have hcz8_1 : w5.cell? ⟨gb302, 1, none⟩ = some (.bool a0_1) := (blk_cell BK302.out 1).trans rfl; have hcz8_2 : w5.cell? ⟨gb302, 2, none⟩ = some (.slice A0_2 l0_2.length c0_2) := (blk_cell BK302.out 2).trans rfl; have hfz8_0 := blk_frozen BK302.out 0; have hfz8_1 := blk_frozen BK302.out 1; have hfz8_2 := blk_frozen BK302.out 2; have hnb9 := NB304_303.out; have hnc9 := NB303_304.out; have hcz10_0 : w5.cell? ⟨gb304, 0, none⟩ = some (.bool false) := (blk_cell BK304.out 0).trans rfl; have hcz10_1 : w5.cell? ⟨gb304, 1, none⟩ = some (.bool false) := (blk_cell BK304.out 1).trans rfl; have hcz10_2 : w5.cell? ⟨gb304, 2, none⟩ = some (.slice none 0 0) := (blk_cell BK304.out 2).trans rfl; have hfz10_0 := blk_frozen BK304.out 0; have hfz10_1 := blk_frozen BK304.out 1; have hfz10_2 := blk_frozen BK304.out 2) | ((with_reducible refine gate_callee (f := 27) rfl ?_); refine goesL_ (some 9) rfl rfl Try.func27 (by kernel_rfl) rfl #[.agg #[.bool a0_1, .slice A0_2 l0_2.length c0_2]] rfl (by (try simp only [List.map_toArray, List.map_cons, List.map_nil]); first | done | rfl | (simp only [List.length_drop, List.length_take]; rfl)) ?_; (with_reducible refine (laws_toNode.calls k a0_1 _ _ l0_2 t305 t306 _ ?side1 ?side2 A2.out).mono ?_); (case side1 => exact Kd.C_below HR0_2.out (by repeat (first | (with_reducible first | exact HB.out | apply below_alloc | apply pw_below_drewN | apply below_drew1 | refine below_set ?_ GE302.out | refine below_set ?_ GE303.out | refine below_set ?_ GE304.out) | exact HB.out))); (case side2 => exact HC0_2.out); rintro e w11 ⟨v307, rfl, ho0, hb⟩; refine ⟨_, rfl, ?_⟩; have n0_ := Aside0.mk (Kd.R_lower ho0 (below_size (by repeat (first | (with_reducible first | exact HB.out | apply below_alloc | apply pw_below_drewN | apply below_drew1 | refine below_set ?_ GE302.out | refine below_set ?_ GE303.out | refine below_set ?_ GE304.out) | exact HB.out)))); have n1_ := Aside0.mk (blk_below (g := gb302) (o := .cells #[.bool a0_0, .bool a0_1, .slice A0_2 l0_2.length c0_2] 118 (0, 0)) (by (with_reducible repeat (first | refine blk_drewN ?_ _ | refine blk_drew ?_ | refine blk_alloc ?_ _)); refine blk_far ?_ NB302_304.out _; (with_reducible repeat (first | refine blk_drewN ?_ _ | refine blk_drew ?_ | refine blk_alloc ?_ _)); exact BK302.out) hb); have n2_ := Aside0.mk (blk_below (g := gb303) (o := .cells #[.bool false, .bool false, .slice none 0 0] 90 (0, 0)) (by (with_reducible repeat (first | refine blk_drewN ?_ _ | refine blk_drew ?_ | refine blk_alloc ?_ _)); refine blk_far ?_ NB303_304.out _; (with_reducible repeat (first | refine blk_drewN ?_ _ | refine blk_drew ?_ | refine blk_alloc ?_ _)); exact BK303.out) hb); have n3_ := Aside0.mk (blk_below (g := gb304) (o := .cells #[.bool a0_0, .bool false, .slice none 0 0] 90 (0, 0)) (by (with_reducible repeat (first | refine blk_drewN ?_ _ | refine blk_drew ?_ | refine blk_alloc ?_ _)); refine blk_put (cs := #[.bool false, .bool false, .slice none 0 0]) ?_ 0 _ rfl; (with_reducible repeat (first | refine blk_drewN ?_ _ | refine blk_drew ?_ | refine blk_alloc ?_ _)); exact BK304.out) hb); have n4_ := Aside0.mk (below_step (by repeat (first | (with_reducible first | exact HB.out | apply below_alloc | apply pw_below_drewN | apply below_drew1 | refine below_set ?_ GE302.out | refine below_set ?_ GE303.out | refine below_set ?_ GE304.out) | exact HB.out)) hb); clear BK302; clear BK303; clear BK304; clear HB; have HO308 := n0_; have BK302 := n1_; have BK303 := n2_; have BK304 := n3_; have HB := n4_; clear n0_ n1_ n2_ n3_ n4_; (try clear hb); (try clear hb2); (try clear hk); (try clear hi); (try clear ho0); have hcz12_0 : w11.cell? ⟨gb304, 0, none⟩ = some (.bool a0_0) := (blk_cell BK304.out 0).trans rfl; have hcz12_1 : w11.cell? ⟨gb304, 1, none⟩ = some (.bool false) := (blk_cell BK304.out 1).trans rfl; have hcz12_2 : w11.cell? ⟨gb304, 2, none⟩ = some (.slice none 0 0) := (blk_cell BK304.out 2).trans rfl; have hfz12_0 := blk_frozen BK304.out 0; have hfz12_1 := blk_frozen BK304.out 1; have hfz12_2 := blk_frozen BK304.out 2; obtain ⟨Ao13, co13, eo13⟩ := Kd.R_slice HO308.out; subst eo13; have hcz14_0 : w11.cell? ⟨gb303, 0, none⟩ = some (.bool false) := (blk_cell BK303.out 0).trans rfl; have hcz14_1 : w11.cell? ⟨gb303, 1, none⟩ = some (.bool false) := (blk_cell BK303.out 1).trans rfl; have hcz14_2 : w11.cell? ⟨gb303, 2, none⟩ = some (.slice none 0 0) := (blk_cell BK303.out 2).trans rfl; have hfz14_0 := blk_frozen BK303.out 0; have hfz14_1 := blk_frozen BK303.out 1; have hfz14_2 := blk_frozen BK303.out 2))
  refine bodyPost_ret (results_cell_row rfl _ _ gb303 90 #[.bool a0_0, .bool t305, .slice Ao13 t306.length co13] (0, 0) _ rfl (by (with_reducible repeat (first | refine blk_drewN ?_ _ | refine blk_drew ?_ | refine blk_alloc ?_ _)); refine blk_put (cs := #[.bool a0_0, .bool t305, .slice none 0 0]) ?_ 2 _ rfl; (with_reducible repeat (first | refine blk_drewN ?_ _ | refine blk_drew ?_ | refine blk_alloc ?_ _)); refine blk_put (cs := #[.bool a0_0, .bool false, .slice none 0 0]) ?_ 1 _ rfl; (with_reducible repeat (first | refine blk_drewN ?_ _ | refine blk_drew ?_ | refine blk_alloc ?_ _)); refine blk_put (cs := #[.bool false, .bool false, .slice none 0 0]) ?_ 0 _ rfl; (with_reducible repeat (first | refine blk_drewN ?_ _ | refine blk_drew ?_ | refine blk_alloc ?_ _)); refine blk_far ?_ NB303_304.out _; (with_reducible repeat (first | refine blk_drewN ?_ _ | refine blk_drew ?_ | refine blk_alloc ?_ _)); refine blk_far ?_ NB303_304.out _; (with_reducible repeat (first | refine blk_drewN ?_ _ | refine blk_drew ?_ | refine blk_alloc ?_ _)); exact BK303.out) Try.underlying90 rfl (by kernel_rfl)) rfl ?_
  exact ⟨_, by first | rfl | (simp [errW_none, errW_some] <;> rfl) | (simp [*, errW_none, errW_some] <;> rfl), by (with_reducible repeat (first | apply Kd.R_alloc | apply Kd.R_drewN | apply Kd.R_drew)); exact Kd.R_mono (Kd.R_far (p := ⟨gb303, 2, none⟩) (Kd.R_far (p := ⟨gb303, 1, none⟩) (Kd.R_far (p := ⟨gb303, 0, none⟩) (Kd.R_far (p := ⟨gb304, 2, none⟩) (Kd.R_far (p := ⟨gb304, 1, none⟩) (Kd.R_types (Kd.R_types HO308.out BK304.out (by decide)) BK303.out (by decide)) (fun _ hk => hk.1.2) (.bool t305)) (fun _ hk => hk.1.2) (.slice Ao13 t306.length co13)) (fun _ hk => hk.2) (.bool a0_0)) (fun _ hk => hk.2) (.bool t305)) (fun _ hk => hk.2) (.slice Ao13 t306.length co13)) (fun _ hk => trivial), by repeat (first | (with_reducible first | exact HB.out | apply below_alloc | apply pw_below_drewN | apply below_drew1 | refine below_set ?_ GE302.out | refine below_set ?_ GE303.out | refine below_set ?_ GE304.out) | exact HB.out)⟩

end Go.Proofs.Ytngjaajcdbodeaa.All

namespace Go.Proofs.Ytngjaajcdbodeaa.All
open Go.RowKit Go.Proofs.YtngjaajcdbodeaaW.PrintWords Go.Proofs.YtngjaajcdbodeaaW.PrintLast Go.Proofs.YtngjaajcdbodeaaW.PrintMore
attribute [local go_sem] max2_int min2_int max_two min_two max_three min_three max_four min_four   -- for this text's walks alone
set_option linter.unusedVariables false
set_option linter.unusedSimpArgs false

/-! ### laws_toPageS: function 74 -/
def laws_toPageS.l0 : Nat → List (S118) → List (S90) → Int → Option ((List (S90)))
  | 0, _, _, _ => none
  | k + 1, x0, x3, x4 => if x4 < (x0.length : Int) then (if 0 ≤ x4 then ((laws_toPage.f k ((rd_T118 x0 x4).f0) ((rd_T118 x0 x4).f1.f0) ((rd_T118 x0 x4).f1.f1)).bind fun bt313 => (if x4 < (x3.length : Int) then (laws_toPageS.l0 k x0 (x3.set (x4 : Int).toNat (⟨bt313.1, (⟨bt313.2.1, bt313.2.2⟩ : S54)⟩ : S90)) (wrap64 (x4 + 1))) else (none))) else (none)) else (some x3)
def laws_toPageS.f (k : Nat) (l0 : List (S118)) : Option ((List (S90))) := if 0 ≤ (l0.length : Int) then (if ((l0.length : Int) : Int).toNat ≤ 7036874417766 then (laws_toPageS.l0 k l0 (List.replicate ((l0.length : Int) : Int).toNat z90) 0) else (none)) else (none)
theorem laws_toPageS.mono_l : ∀ k, (∀ y0 y1 y2, LeO (laws_toPageS.l0 k y0 y1 y2) (laws_toPageS.l0 (k + 1) y0 y1 y2))
  | 0 => fun _ _ _ r h => by simp [laws_toPageS.l0] at h
  | k + 1 => by
    have ih0 := laws_toPageS.mono_l k
    · intro y0 y1 y2
      unfold laws_toPageS.l0
      repeat' first
      | (with_reducible exact ih0 _ _ _)
      | (with_reducible exact laws_toPage.mono _ _ _ _)
      | (with_reducible exact LeO.refl _)
      | (with_reducible exact LeO.none _)
      | (with_reducible refine LeO.ite ?_ ?_)
      | (with_reducible refine LeO.bind ?_ (fun _ => ?_))
      | exact ih0 _ _ _
      | exact laws_toPage.mono _ _ _ _
      | exact LeO.none _
      | refine LeO.ite ?_ ?_
      | refine LeO.bind ?_ (fun _ => ?_)
theorem laws_toPageS.mono : ∀ a0 k, LeO (laws_toPageS.f k a0) (laws_toPageS.f (k + 1) a0) := by
  intro a0 k
  have ih0 := laws_toPageS.mono_l k
  unfold laws_toPageS.f
  repeat' first
      | (with_reducible exact ih0 _ _ _)
      | (with_reducible exact laws_toPage.mono _ _ _ _)
      | (with_reducible exact LeO.refl _)
      | (with_reducible exact LeO.none _)
      | (with_reducible refine LeO.ite ?_ ?_)
      | (with_reducible refine LeO.bind ?_ (fun _ => ?_))
      | exact ih0 _ _ _
      | exact laws_toPage.mono _ _ _ _
      | exact LeO.none _
      | refine LeO.ite ?_ ?_
      | refine LeO.bind ?_ (fun _ => ?_)
set_option maxHeartbeats 8000000 in
set_option maxRecDepth 100000 in
theorem laws_toPageS.calls (k : Nat) (A0 : Option Addr) (c0 : Nat) (l0 : List (S118)) (r : List (S90)) (w : World) (hr0 : Kd.C k118 w A0 l0.length l0) (hc0 : l0.length ≤ c0) (h : laws_toPageS.f k l0 = some r) :
    Calls Try.prog 74 #[.slice A0 l0.length c0] w fun e w' => ∃ v0_ : Value, e = .returned (v0_) ∧ Kd.S k90 90 w' w.heap.size (fun _ => True) v0_ r ∧ Below w.heap.size w w' := by
  have hu118 := Try.underlying118
  have hu90 := Try.underlying90
  have HR0 := Aside0.mk hr0
  have HC0 := Aside0.mk hc0
  clear hr0 hc0
  have HB := Aside0.mk (Below.refl w.heap.size w)
  have H : (if 0 ≤ (l0.length : Int) then (if ((l0.length : Int) : Int).toNat ≤ 7036874417766 then (laws_toPageS.l0 k l0 (List.replicate ((l0.length : Int) : Int).toNat z90) 0) else (none)) else (none)) = some r := h
  clear h
  by_cases c2 : 0 ≤ (l0.length : Int)
  · rw [if_pos c2] at H
    have c2b0 := eq_true c2
    have c2b1 : decide (0 ≤ (l0.length : Int)) = true := decide_eq_true c2
    clear c2
    by_cases c3 : ((l0.length : Int) : Int).toNat ≤ 7036874417766
    · rw [if_pos c3] at H
      have c3b0 := eq_true c3
      have c3b1 : decide (((l0.length : Int) : Int).toNat ≤ 7036874417766) = true := decide_eq_true c3
      clear c3
      obtain ⟨y309, hy309⟩ : ∃ y_ : List (S90), y_ = (List.replicate ((l0.length : Int) : Int).toNat z90) := ⟨_, rfl⟩
      replace H : (laws_toPageS.l0 k l0 y309 0) = some r := by first | (rw [hy309]; with_reducible exact H) | (have H2_ := (Option.bind_some _ _).symm.trans H; rw [hy309]; with_reducible exact H2_) | (have H2_ := (Option.bind_some _ _).symm.trans H; with_reducible exact H2_) | with_reducible exact H | (rw [hy309]; exact H) | exact H
      have Ny309 := Aside0.mk hy309
      clear hy309
      have H' := Aside0.mk H
      clear H
      go_enter Try.func74, Try.ntmps74
      go_wp2_with (first | ((with_reducible refine gate_dst (N := 7) rfl ?_); refine Kd.S_make k90 _ 90 rfl (N := 7) rfl 47 _ _ rfl (l0.length : Int) rfl rfl Try.underlying47 (.agg #[(.bool false), (.bool false), (.slice none 0 0)]) 40 info90 rfl (by decide) (by omega) z90 (ok := fun _ => True) (okp := fun _ => True) (k90_mkM _ _ _ z90 (Kd.R_nil _ _ _ _ _)) (fun _ hk => hk) trivial (of_decide_eq_true (by first | (with_reducible assumption) | assumption)) (Nat.le_trans (Nat.mul_le_mul_right _ (of_decide_eq_true (by first | (with_reducible assumption) | assumption) : (l0.length : Int).toNat ≤ 7036874417766)) (by omega)) (Below.refl _ _) (Nat.le_refl _) ?_; intro v310 w4 ho5 hb hg_ hnew_; clear hg_ hnew_; (first | rw [← Ny309.out] at ho5 | (simp only [Int.reduceToNat] at ho5; rw [← Ny309.out] at ho5)); have n0_ := Aside0.mk (Kd.S_lower ho5 (below_size (by repeat (first | (with_reducible first | exact HB.out | apply below_alloc | apply pw_below_drewN | apply below_drew1) | exact HB.out)))); have n1_ := Aside0.mk (below_step (by repeat (first | (with_reducible first | exact HB.out | apply below_alloc | apply pw_below_drewN | apply below_drew1) | exact HB.out)) hb); clear HB; have HO311 := n0_; have HB := n1_; clear n0_ n1_; clear hb ho5))
      go_loopg [4] k (fun kq v4 w' => ∃ (x3_1 : List (S90)) (x4_1 : Int), v4 = .int .i64 x4_1 ∧ Aside0 (laws_toPageS.l0 kq l0 x3_1 x4_1 = some r) ∧ Aside0 (kq ≤ k) ∧ Aside0 (Kd.S k90 90 w' w.heap.size (fun _ => True) v310 x3_1) ∧ Aside0 (Below w.heap.size w w'))
      case atStart => exact ⟨(y309), (0), (by first | rfl | (simp; done) | (simp [*]; done)), H', ⟨Nat.le_refl _⟩, ⟨by (with_reducible repeat (first | apply Kd.S_alloc | apply Kd.S_drewN | apply Kd.S_drew)); exact HO311.out⟩, ⟨by repeat (first | (with_reducible first | exact HB.out | apply below_alloc | apply pw_below_drewN | apply below_drew1) | exact HB.out)⟩⟩
      case round =>
        clear H'
        try clear c2
        try clear c2b0
        try clear c2b1
        try clear p2
        try clear c3
        try clear c3b0
        try clear c3b1
        obtain ⟨x3_1, x4_1, rfl, HA, HK1, HO_3, HB⟩ := hrel
        cases gk with
        | zero => exact absurd HA.out (by simp [laws_toPageS.l0])
        | succ k1 =>
          have H := HA.out
          clear HA
          simp only [laws_toPageS.l0] at H
          by_cases c6 : x4_1 < (l0.length : Int)
          · rw [if_pos c6] at H
            have c6b0 : decide (x4_1 < (l0.length : Int)) = true := decide_eq_true c6
            clear c6
            by_cases c7 : 0 ≤ x4_1
            · rw [if_pos c7] at H
              have c7b0 : decide (0 ≤ x4_1) = true := decide_eq_true c7
              clear c7
              replace H := Option.bind_eq_some_iff.mp H
              obtain ⟨⟨t313, t314, t315⟩, A80, H⟩ := H
              replace H : (if x4_1 < (x3_1.length : Int) then (laws_toPageS.l0 k1 l0 (x3_1.set (x4_1 : Int).toNat (⟨t313, (⟨t314, t315⟩ : S54)⟩ : S90)) (wrap64 (x4_1 + 1))) else (none)) = some r := H
              have A8 := Aside0.mk A80
              clear A80
              by_cases c9 : x4_1 < (x3_1.length : Int)
              · rw [if_pos c9] at H
                have c9b0 : decide (x4_1 < (x3_1.length : Int)) = true := decide_eq_true c9
                clear c9
                obtain ⟨y318, hy318⟩ : ∃ y_ : List (S90), y_ = (x3_1.set (x4_1 : Int).toNat (⟨t313, (⟨t314, t315⟩ : S54)⟩ : S90)) := ⟨_, rfl⟩
                replace H : (laws_toPageS.l0 k1 l0 y318 (wrap64 (x4_1 + 1))) = some r := by first | (rw [hy318]; with_reducible exact H) | (have H2_ := (Option.bind_some _ _).symm.trans H; rw [hy318]; with_reducible exact H2_) | (have H2_ := (Option.bind_some _ _).symm.trans H; with_reducible exact H2_) | with_reducible exact H | (rw [hy318]; exact H) | exact H
                have Ny318 := Aside0.mk hy318
                clear hy318
                have H' := Aside0.mk H
                clear H
                have p312 : 0 ≤ (x4_1 : Int) := of_decide_eq_true (by first | (with_reducible assumption) | assumption)
                have q312 : x4_1 < (l0.length : Int) := of_decide_eq_true (by first | (with_reducible assumption) | assumption)
                obtain ⟨ad312, A312_2, c312_2, e312, hx312_0, hx312_1, hx312_2, hl312_2, hi312_2⟩ := at_T118 HR0.out x4_1 p312 q312
                cases e312
                replace hx312_0 := (HB.out.cell (World.block_lt_of_cell? w _ hx312_0)).trans hx312_0
                replace hx312_1 := (HB.out.cell (World.block_lt_of_cell? w _ hx312_1)).trans hx312_1
                replace hx312_2 := (HB.out.cell (World.block_lt_of_cell? w _ hx312_2)).trans hx312_2
                have HR312_2 := Aside0.mk hi312_2
                have HC312_2 := Aside0.mk hl312_2
                clear hi312_2 hl312_2
                replace p312 := eq_true p312
                replace q312 := eq_true q312
                go_wp2_with (first | ((with_reducible refine gate_callee (f := 118) rfl ?_); refine goesL_ (some 20) rfl rfl Try.func118 (by kernel_rfl) rfl #[.agg #[.bool ((rd_T118 l0 x4_1).f0), .bool ((rd_T118 l0 x4_1).f1.f0), .slice A312_2 ((rd_T118 l0 x4_1).f1.f1).length c312_2]] rfl (by (try simp only [List.map_toArray, List.map_cons, List.map_nil]); first | done | rfl | (simp only [List.length_drop, List.length_take]; rfl)) ?_; (with_reducible refine (laws_toPage.calls k1 ((rd_T118 l0 x4_1).f0) ((rd_T118 l0 x4_1).f1.f0) _ _ ((rd_T118 l0 x4_1).f1.f1) t313 t314 t315 _ ?side1 ?side2 A8.out).mono ?_); (case side1 => repeat (first | exact (Kd.C_below HR312_2.out HB.out) | (with_reducible refine Kd.C_alloc ?_ _) | (with_reducible refine Kd.C_drewN ?_ _) | (with_reducible refine Kd.C_drew ?_))); (case side2 => exact HC312_2.out); rintro e w11 ⟨v316, rfl, ho0, hb⟩; refine ⟨_, rfl, ?_⟩; have n0_ := Aside0.mk (Kd.S_elder' (by (with_reducible repeat (first | apply Kd.S_alloc | apply Kd.S_drewN | apply Kd.S_drew)); exact HO_3.out) (Kd.R_base ho0) hb); have n1_ := Aside0.mk (Kd.R_lower ho0 (below_size (by repeat (first | (with_reducible first | exact HB.out | apply below_alloc | apply pw_below_drewN | apply below_drew1) | exact HB.out)))); have n2_ := Aside0.mk (below_step (by repeat (first | (with_reducible first | exact HB.out | apply below_alloc | apply pw_below_drewN | apply below_drew1) | exact HB.out)) hb); clear HO_3; clear HB; have HO_3 := n0_; have HO317 := n1_; have HB := n2_; clear n0_ n1_ n2_; (try clear hb); (try clear hb2); (try clear hk); (try clear hi); (try clear ho0); obtain ⟨Asv316, csv316, esv316⟩ := Kd.R_slice HO317.out; subst esv316; have p10 : 0 ≤ (x4_1 : Int) := of_decide_eq_true (by first | (with_reducible assumption) | assumption); have q10 : (x4_1 : Int) < ((x3_1.length : Int) : Int) := of_decide_eq_true (by first | (with_reducible assumption) | assumption); obtain ⟨go10, co10, eo10, gb10, gl10, cl10, HG10⟩ := Kd.S_form HO_3.out (by omega); (first | cases eo10 | (injection eo10 with ea_ en_ ec_; (first | subst ea_ | (injection ea_ with ea_; subst ea_)); subst ec_; clear en_)); have GB10 := Aside0.mk gb10; have GG10 := Aside0.mk HG10; clear gb10 gl10 HG10; obtain ⟨_, ce10, hcl10, hM10, hcc10, hfr10, _, _⟩ := Kd.S_elem HO_3.out z90 (x4_1 : Int) p10 q10; obtain ⟨ve10_2, rfl, ge10_2⟩ := k90_openM hM10; have hx10_0 : w11.cell? ⟨go10, (x4_1 : Int).toNat * 3, none⟩ = some (.bool ((rd_T90 x3_1 x4_1).f0)) := hcc10 0 _ rfl; have hx10_1 : w11.cell? ⟨go10, (x4_1 : Int).toNat * 3 + 1, none⟩ = some (.bool ((rd_T90 x3_1 x4_1).f1.f0)) := hcc10 1 _ rfl; have hx10_2 : w11.cell? ⟨go10, (x4_1 : Int).toNat * 3 + 2, none⟩ = some (ve10_2) := hcc10 2 _ rfl; have hf10_0 : w11.frozen? ⟨go10, (x4_1 : Int).toNat * 3, none⟩ = false := hfr10 0; have hf10_1 : w11.frozen? ⟨go10, (x4_1 : Int).toNat * 3 + 1, none⟩ = false := hfr10 1; have hf10_2 : w11.frozen? ⟨go10, (x4_1 : Int).toNat * 3 + 2, none⟩ = false := hfr10 2; clear hcl10 hcc10 hfr10 hM10; replace p10 := eq_true p10; replace q10 := eq_true q10; have n_ := Aside0.mk (Kd.S_mono (ok' := (fun k_ => some k_ ≠ ((.slice Asv316 t315.length csv316) : Value).ownBlock)) HO_3.out (fun k_ hk => hk.2)); clear HO_3; have HO_3 := n_; clear n_; have HX12 := Aside0.mk (show Kd.S k90 90 w11 w.heap.size (fun k_ => ((fun _ => True)) k_ ∧ ¬ ((fun k_ => some k_ = ((.slice Asv316 t315.length csv316) : Value).ownBlock)) k_) (.slice (some ⟨go10, 0, none⟩) x3_1.length co10) x3_1 from (by (with_reducible repeat (first | apply Kd.S_alloc | apply Kd.S_drewN | apply Kd.S_drew)); exact Kd.S_mono HO_3.out (fun k_ hk => ⟨trivial, fun e_ => hk e_⟩))); obtain ⟨oki12, ce12, hcl12, hM12, hcc12, hfr12, hoki12, hH12⟩ := Kd.S_elem HX12.out z90 (x4_1 : Int) (of_decide_eq_true (by first | (with_reducible assumption) | assumption)) (by have h_ : (x4_1 : Int) < ((x3_1.length : Int) : Int) := of_decide_eq_true (by first | (with_reducible assumption) | assumption); first | exact h_ | (have e_ := (Kd.S_reads' HO_3.out).1; omega) | simpa using h_); obtain ⟨ve12_2, rfl, ge12_2⟩ := k90_openM hM12; have HP12 := Kd.S_seg hH12 (of_decide_eq_true (by first | (with_reducible assumption) | assumption)) (by have h_ : (x4_1 : Int) < ((x3_1.length : Int) : Int) := of_decide_eq_true (by first | (with_reducible assumption) | assumption); first | exact h_ | (have e_ := (Kd.S_reads' HO_3.out).1; omega) | simpa using h_) (seg := [.bool t313, .bool t314, (.slice Asv316 t315.length csv316)]) (j := 0) (show 3 ≤ 3 from by decide) (x' := (⟨t313, (⟨t314, t315⟩ : S54)⟩ : S90)) (k90_mkM _ _ _ (⟨t313, (⟨t314, t315⟩ : S54)⟩ : S90) (Kd.R_mono (Kd.R_tight rfl (Kd.R_mono (ok' := fun k_ => ((fun _ => True)) k_ ∧ k_ ≠ go10) (Kd.R_apart' (HO317.out) (Kd.S_typed HO_3.out) (by decide)) (fun k_ hk => ⟨trivial, fun e_ => (hk.2) (by rw [e_]; rfl)⟩))) (fun _ h_ => Or.inr (h_)))) (fun _ hk => hk) (fun k_ hk_ => ((Kd.R_mono (ok' := fun k_ => ((fun _ => True)) k_ ∧ k_ ≠ go10) (Kd.R_apart' (HO317.out) (Kd.S_typed HO_3.out) (by decide)) (fun k_ hk => ⟨trivial, fun e_ => (hk.2) (by rw [e_]; rfl)⟩))).1 k_ hk_.symm); have hx12_0 := hcc12 0 _ rfl; (try simp only [show (k90).sz = 3 from rfl, Nat.mul_one, Nat.add_zero] at hx12_0); have hf12_0 := hfr12 0; (try simp only [show (k90).sz = 3 from rfl, Nat.mul_one, Nat.add_zero] at hf12_0); have hx12_1 := hcc12 1 _ rfl; (try simp only [show (k90).sz = 3 from rfl, Nat.mul_one, Nat.add_zero] at hx12_1); have hf12_1 := hfr12 1; (try simp only [show (k90).sz = 3 from rfl, Nat.mul_one, Nat.add_zero] at hf12_1); have hx12_2 := hcc12 2 _ rfl; (try simp only [show (k90).sz = 3 from rfl, Nat.mul_one, Nat.add_zero] at hx12_2); have hf12_2 := hfr12 2; (try simp only [show (k90).sz = 3 from rfl, Nat.mul_one, Nat.add_zero] at hf12_2); clear hcl12 hcc12 hfr12 hM12 hoki12 hH12) | ((with_reducible refine gate_store (t := 90) (p := 21) rfl ?_); refine store_event (t := 90) (p := 21) (v := ?vo_w13) (w1 := (((w11.setCell ⟨go10, (x4_1 : Int).toNat * 3, none⟩ (.bool t313)).setCell ⟨go10, (x4_1 : Int).toNat * 3 + 1, none⟩ (.bool t314)).setCell ⟨go10, (x4_1 : Int).toNat * 3 + 2, none⟩ ((.slice Asv316 t315.length csv316)))) ?hg ?ho ?hn ?hr ?_; (case ho => rfl); (case hg => rfl); (case hn => rfl); (case hr => first | (go_simp; done) | (go_simp; rfl)); intro w13 hw; have hg : w11.grownBy w13 (some go10) := (by rw [hw]; exact HP12.2); have hp_ : Kd.S k90 90 w13 w.heap.size (fun _ => True) (.slice (some ⟨go10, 0, none⟩) x3_1.length co10) y318 := (by rw [hw, Ny318.out]; exact HP12.1); clear HP12; have n0_ := Aside0.mk (hp_); have n1_ := Aside0.mk ((by rw [hw]; exact below_set (below_set (below_set (HB.out) GB10.out) GB10.out) GB10.out : Below w.heap.size w w13)); clear HO_3; clear HB; clear HO317; have HO_3 := n0_; have HB := n1_; clear n0_ n1_; clear hg hw hp_))
                go_roundg k1
                case measure => have := HK1.out; omega
                case rel => exact ⟨(y318), (wrap64 (x4_1 + 1)), (by first | rfl | (simp; done) | (simp [*]; done)), H', ⟨by have := HK1.out; omega⟩, ⟨by (with_reducible repeat (first | apply Kd.S_alloc | apply Kd.S_drewN | apply Kd.S_drew)); exact HO_3.out⟩, ⟨by repeat (first | (with_reducible first | exact HB.out | apply below_alloc | apply pw_below_drewN | apply below_drew1) | exact HB.out)⟩⟩
              · rw [if_neg c9] at H
                exact absurd H (by simp)
            · rw [if_neg c7] at H
              exact absurd H (by simp)
          · rw [if_neg c6] at H
            have c6b0 : decide (x4_1 < (l0.length : Int)) = false := decide_eq_false c6
            clear c6
            obtain rfl := Option.some.inj H
            go_wp2
            go_ret
            exact ⟨_, by first | rfl | (simp [errW_none, errW_some] <;> rfl) | (simp [*, errW_none, errW_some] <;> rfl), by (with_reducible repeat (first | apply Kd.S_alloc | apply Kd.S_drewN | apply Kd.S_drew)); exact HO_3.out, by repeat (first | (with_reducible first | exact HB.out | apply below_alloc | apply pw_below_drewN | apply below_drew1) | exact HB.out)⟩
    · rw [if_neg c3] at H
      exact absurd H (by simp)
  · rw [if_neg c2] at H
    exact absurd H (by simp)

end Go.Proofs.Ytngjaajcdbodeaa.All

namespace Go.Proofs.Ytngjaajcdbodeaa.All
open Go.RowKit Go.Proofs.YtngjaajcdbodeaaW.PrintWords Go.Proofs.YtngjaajcdbodeaaW.PrintLast Go.Proofs.YtngjaajcdbodeaaW.PrintMore
attribute [local go_sem] max2_int min2_int max_two min_two max_three min_three max_four min_four   -- for this text's walks alone
set_option linter.unusedVariables false
set_option linter.unusedSimpArgs false

/-! ### laws_toBook: function 26 -/
def laws_toBook.f (k : Nat) (a0_0 : Int) (l0_1 : List (S118)) : Option (Int × (List (S90))) := (laws_toPageS.f k l0_1).bind fun t322 => (some (a0_0, t322))
theorem laws_toBook.mono : ∀ a0 a1 k, LeO (laws_toBook.f k a0 a1) (laws_toBook.f (k + 1) a0 a1) := by
  intro a0 a1 k
  unfold laws_toBook.f
  repeat' first
      | (with_reducible exact laws_toPageS.mono _ _)
      | (with_reducible exact LeO.refl _)
      | (with_reducible exact LeO.none _)
      | (with_reducible refine LeO.ite ?_ ?_)
      | (with_reducible refine LeO.bind ?_ (fun _ => ?_))
      | exact laws_toPageS.mono _ _
      | exact LeO.none _
      | refine LeO.ite ?_ ?_
      | refine LeO.bind ?_ (fun _ => ?_)
set_option maxHeartbeats 8000000 in
set_option maxRecDepth 100000 in
theorem laws_toBook.calls (k : Nat) (a0_0 : Int) (A0_1 : Option Addr) (c0_1 : Nat) (l0_1 : List (S118)) (r1 : Int) (r2 : List (S90)) (w : World) (hr0_1 : Kd.C k118 w A0_1 l0_1.length l0_1) (hc0_1 : l0_1.length ≤ c0_1) (h : laws_toBook.f k a0_0 l0_1 = some (r1, r2)) :
    Calls Try.prog 26 #[.agg #[.int .i64 a0_0, .slice A0_1 l0_1.length c0_1]] w fun e w' => ∃ v1_ : Value, e = .returned (.agg #[.int .i64 r1, v1_]) ∧ Kd.S k90 90 w' w.heap.size (fun _ => True) v1_ r2 ∧ Below w.heap.size w w' := by
  have hu41 := Try.underlying41
  have hu49 := Try.underlying49
  have HR0_1 := Aside0.mk hr0_1
  have HC0_1 := Aside0.mk hc0_1
  clear hr0_1 hc0_1
  have HB := Aside0.mk (Below.refl w.heap.size w)
  have H : ((laws_toPageS.f k l0_1).bind fun t322 => (some (a0_0, t322))) = some (r1, r2) := h
  clear h
  replace H := Option.bind_eq_some_iff.mp H
  obtain ⟨t322, A20, H⟩ := H
  replace H : (some (a0_0, t322)) = some (r1, r2) := H
  have A2 := Aside0.mk A20
  clear A20
  simp only [Option.some.injEq, Prod.mk.injEq] at H
  obtain ⟨rfl, rfl⟩ := H
  go_enter Try.func26, Try.ntmps26
  go_wp2_with (first | ((with_reducible refine gate_dst (N := 1) rfl ?_); refine box_event ?hg (N := 1) ?hd (cs := #[.int .i64 a0_0, .slice A0_1 l0_1.length c0_1]) (t := 41) ?hr ?_; (case hd => rfl); (case hg => rfl); (case hr => first | (go_simp; done) | (go_simp; rfl)); intro gb319 hg w3 hbox hb; have n0_ := Aside0.mk (below_step (by repeat (first | (with_reducible first | exact HB.out | apply below_alloc | apply pw_below_drewN | apply below_drew1) | exact HB.out)) hb); have n1_ := Aside0.mk (hbox); have n2_ := Aside0.mk ((by rw [hg]; exact (below_size (by repeat (first | (with_reducible first | exact HB.out | apply below_alloc | apply pw_below_drewN | apply below_drew1) | exact HB.out))) : w.heap.size ≤ gb319)); have n3_ := Aside0.mk ((by rw [hg]; exact (below_size (by repeat (first | (with_reducible first | exact HB.out | apply below_alloc | apply pw_below_drewN | apply below_drew1) | exact HB.out))) : w.heap.size ≤ gb319)); clear HB; have HB := n0_; have BK319 := n1_; have GW319 := n2_; have GE319 := n3_; clear n0_ n1_ n2_ n3_; clear hb hbox hg) | ((with_reducible refine gate_dst (N := 2) rfl ?_); refine box_event ?hg (N := 2) ?hd (cs := #[.int .i64 0, .slice none 0 0]) (t := 49) ?hr ?_; (case hd => rfl); (case hg => rfl); (case hr => first | (go_simp; done) | (go_simp; rfl)); intro gb320 hg w4 hbox hb; have n0_ := Aside0.mk (blk_below (g := gb319) (o := .cells #[.int .i64 a0_0, .slice A0_1 l0_1.length c0_1] 41 (0, 0)) (by (with_reducible repeat (first | refine blk_drewN ?_ _ | refine blk_drew ?_ | refine blk_alloc ?_ _)); exact BK319.out) hb); have n1_ := Aside0.mk (below_step (by repeat (first | (with_reducible first | exact HB.out | apply below_alloc | apply pw_below_drewN | apply below_drew1 | refine below_set ?_ GE319.out) | exact HB.out)) hb); have n2_ := Aside0.mk (hbox); have n3_ := Aside0.mk ((by rw [hg]; exact (below_size (by repeat (first | (with_reducible first | exact HB.out | apply below_alloc | apply pw_below_drewN | apply below_drew1 | refine below_set ?_ GE319.out) | exact HB.out))) : w.heap.size ≤ gb320)); have n4_ := Aside0.mk ((by rw [hg]; exact (below_size (by repeat (first | (with_reducible first | exact HB.out | apply below_alloc | apply pw_below_drewN | apply below_drew1 | refine below_set ?_ GE319.out) | exact HB.out))) : w.heap.size ≤ gb320)); have n5_ := Aside0.mk ((by rw [hg]; exact Nat.ne_of_lt (blk_lt (g := gb319) (o := .cells #[.int .i64 a0_0, .slice A0_1 l0_1.length c0_1] 41 (0, 0)) (by (with_reducible repeat (first | refine blk_drewN ?_ _ | refine blk_drew ?_ | refine blk_alloc ?_ _)); exact BK319.out)) : gb319 ≠ gb320)); have n6_ := Aside0.mk ((by rw [hg]; exact Nat.ne_of_gt (blk_lt (g := gb319) (o := .cells #[.int .i64 a0_0, .slice A0_1 l0_1.length c0_1] 41 (0, 0)) (by (with_reducible repeat (first | refine blk_drewN ?_ _ | refine blk_drew ?_ | refine blk_alloc ?_ _)); exact BK319.out)) : gb320 ≠ gb319)); clear BK319; clear HB; have BK319 := n0_; have HB := n1_; have BK320 := n2_; have GW320 := n3_; have GE320 := n4_; have NB319_320 := n5_; have NB320_319 := n6_; clear n0_ n1_ n2_ n3_ n4_ n5_ n6_; clear hb hbox hg) | ((with_reducible refine gate_dst (N := 3) rfl ?_); refine box_event ?hg (N := 3) ?hd (cs := #[.int .i64 0, .slice none 0 0]) (t := 49) ?hr ?_; (case hd => rfl); (case hg => rfl); (case hr => first | (go_simp; done) | (go_simp; rfl)); intro gb321 hg w5 hbox hb; have n0_ := Aside0.mk (blk_below (g := gb319) (o := .cells #[.int .i64 a0_0, .slice A0_1 l0_1.length c0_1] 41 (0, 0)) (by (with_reducible repeat (first | refine blk_drewN ?_ _ | refine blk_drew ?_ | refine blk_alloc ?_ _)); exact BK319.out) hb); have n1_ := Aside0.mk (blk_below (g := gb320) (o := .cells #[.int .i64 0, .slice none 0 0] 49 (0, 0)) (by (with_reducible repeat (first | refine blk_drewN ?_ _ | refine blk_drew ?_ | refine blk_alloc ?_ _)); exact BK320.out) hb); have n2_ := Aside0.mk (below_step (by repeat (first | (with_reducible first | exact HB.out | apply below_alloc | apply pw_below_drewN | apply below_drew1 | refine below_set ?_ GE319.out | refine below_set ?_ GE320.out) | exact HB.out)) hb); have n3_ := Aside0.mk (hbox); have n4_ := Aside0.mk ((by rw [hg]; exact (below_size (by repeat (first | (with_reducible first | exact HB.out | apply below_alloc | apply pw_below_drewN | apply below_drew1 | refine below_set ?_ GE319.out | refine below_set ?_ GE320.out) | exact HB.out))) : w.heap.size ≤ gb321)); have n5_ := Aside0.mk ((by rw [hg]; exact (below_size (by repeat (first | (with_reducible first | exact HB.out | apply below_alloc | apply pw_below_drewN | apply below_drew1 | refine below_set ?_ GE319.out | refine below_set ?_ GE320.out) | exact HB.out))) : w.heap.size ≤ gb321)); have n6_ := Aside0.mk ((by rw [hg]; exact Nat.ne_of_lt (blk_lt (g := gb319) (o := .cells #[.int .i64 a0_0, .slice A0_1 l0_1.length c0_1] 41 (0, 0)) (by (with_reducible repeat (first | refine blk_drewN ?_ _ | refine blk_drew ?_ | refine blk_alloc ?_ _)); exact BK319.out)) : gb319 ≠ gb321)); have n7_ := Aside0.mk ((by rw [hg]; exact Nat.ne_of_gt (blk_lt (g := gb319) (o := .cells #[.int .i64 a0_0, .slice A0_1 l0_1.length c0_1] 41 (0, 0)) (by (with_reducible repeat (first | refine blk_drewN ?_ _ | refine blk_drew ?_ | refine blk_alloc ?_ _)); exact BK319.out)) : gb321 ≠ gb319)); have n8_ := Aside0.mk ((by rw [hg]; exact Nat.ne_of_lt (blk_lt (g := gb320) (o := .cells #[.int .i64 0, .slice none 0 0] 49 (0, 0)) (by (with_reducible repeat (first | refine blk_drewN ?_ _ | refine blk_drew ?_ | refine blk_alloc ?_ _)); exact BK320.out)) : gb320 ≠ gb321)); have n9_ := Aside0.mk ((by rw [hg]; exact Nat.ne_of_gt (blk_lt (g := gb320) (o := .cells #[.int .i64 0, .slice none 0 0] 49 (0, 0)) (by (with_reducible repeat (first | refine blk_drewN ?_ _ | refine blk_drew ?_ | refine blk_alloc ?_ _)); exact BK320.out)) : gb321 ≠ gb320)); clear BK319; clear BK320; clear HB; have BK319 := n0_; have BK320 := n1_; have HB := n2_; have BK321 := n3_; have GW321 := n4_; have GE321 := n5_; have NB319_321 := n6_; have NB321_319 := n7_; have NB320_321 := n8_; have NB321_320 := n9_; clear n0_ n1_ n2_ n3_ n4_ n5_ n6_ n7_ n8_ n9_; clear hb hbox hg; have hnb6 := NB319_320.out; have hnc6 := NB320_319.out; have hnb7 := NB319_321.out; have hnc7 := NB321_319.out; have hcz8_0 : w5.cell? ⟨gb319, 0, none⟩ = some (.int .i64 a0_0) := (blk_cell BK319.out 0).trans rfl; have hcz8_1 : w5.cell? ⟨gb319, 1, none⟩ = some (.slice A0_1 l0_1.length c0_1) := (blk_cell BK319.out 1).trans rfl; have hfz8_0 := blk_frozen BK319.out 0; have hfz8_1 := blk_frozen BK319.out 1; have hnb9 := NB321_320.out; have hnc9 := NB320_321.out; have hcz10_0 : w5.cell? ⟨gb321, 0, none⟩ = some (.int .i64 0) := (blk_cell BK321.out 0).trans rfl; have hcz10_1 : w5.cell? ⟨gb321, 1, none⟩ = some (.slice none 0 0) := (blk_cell BK321.out 1).trans rfl; have hfz10_0 := blk_frozen BK321.out 0; have hfz10_1 := blk_frozen BK321.out 1) | ((with_reducible refine gate_callee (f := 74) rfl ?_); refine goesL_ (some 9) rfl rfl Try.func74 (by kernel_rfl) rfl #[.slice A0_1 l0_1.length c0_1] rfl (by (try simp only [List.map_toArray, List.map_cons, List.map_nil]); first | done | rfl | (simp only [List.length_drop, List.length_take]; rfl)) ?_; (with_reducible refine (laws_toPageS.calls k _ _ l0_1 t322 _ ?side1 ?side2 A2.out).mono ?_); (case side1 => exact Kd.C_below HR0_1.out (by repeat (first | (with_reducible first | exact HB.out | apply below_alloc | apply pw_below_drewN | apply below_drew1 | refine below_set ?_ GE319.out | refine below_set ?_ GE320.out | refine below_set ?_ GE321.out) | exact HB.out))); (case side2 => exact HC0_1.out); rintro e w11 ⟨v323, rfl, ho0, hb⟩; refine ⟨_, rfl, ?_⟩; have n0_ := Aside0.mk (Kd.S_lower ho0 (below_size (by repeat (first | (with_reducible first | exact HB.out | apply below_alloc | apply pw_below_drewN | apply below_drew1 | refine below_set ?_ GE319.out | refine below_set ?_ GE320.out | refine below_set ?_ GE321.out) | exact HB.out)))); have n1_ := Aside0.mk (blk_below (g := gb319) (o := .cells #[.int .i64 a0_0, .slice A0_1 l0_1.length c0_1] 41 (0, 0)) (by (with_reducible repeat (first | refine blk_drewN ?_ _ | refine blk_drew ?_ | refine blk_alloc ?_ _)); refine blk_far ?_ NB319_321.out _; (with_reducible repeat (first | refine blk_drewN ?_ _ | refine blk_drew ?_ | refine blk_alloc ?_ _)); exact BK319.out) hb); have n2_ := Aside0.mk (blk_below (g := gb320) (o := .cells #[.int .i64 0, .slice none 0 0] 49 (0, 0)) (by (with_reducible repeat (first | refine blk_drewN ?_ _ | refine blk_drew ?_ | refine blk_alloc ?_ _)); refine blk_far ?_ NB320_321.out _; (with_reducible repeat (first | refine blk_drewN ?_ _ | refine blk_drew ?_ | refine blk_alloc ?_ _)); exact BK320.out) hb); have n3_ := Aside0.mk (blk_below (g := gb321) (o := .cells #[.int .i64 a0_0, .slice none 0 0] 49 (0, 0)) (by (with_reducible repeat (first | refine blk_drewN ?_ _ | refine blk_drew ?_ | refine blk_alloc ?_ _)); refine blk_put (cs := #[.int .i64 0, .slice none 0 0]) ?_ 0 _ rfl; (with_reducible repeat (first | refine blk_drewN ?_ _ | refine blk_drew ?_ | refine blk_alloc ?_ _)); exact BK321.out) hb); have n4_ := Aside0.mk (below_step (by repeat (first | (with_reducible first | exact HB.out | apply below_alloc | apply pw_below_drewN | apply below_drew1 | refine below_set ?_ GE319.out | refine below_set ?_ GE320.out | refine below_set ?_ GE321.out) | exact HB.out)) hb); clear BK319; clear BK320; clear BK321; clear HB; have HO324 := n0_; have BK319 := n1_; have BK320 := n2_; have BK321 := n3_; have HB := n4_; clear n0_ n1_ n2_ n3_ n4_; (try clear hb); (try clear hb2); (try clear hk); (try clear hi); (try clear ho0); obtain ⟨Ao12, co12, eo12⟩ := Kd.S_slice HO324.out; subst eo12; have hcz13_0 : w11.cell? ⟨gb321, 0, none⟩ = some (.int .i64 a0_0) := (blk_cell BK321.out 0).trans rfl; have hcz13_1 : w11.cell? ⟨gb321, 1, none⟩ = some (.slice none 0 0) := (blk_cell BK321.out 1).trans rfl; have hfz13_0 := blk_frozen BK321.out 0; have hfz13_1 := blk_frozen BK321.out 1; have hcz14_0 : w11.cell? ⟨gb320, 0, none⟩ = some (.int .i64 0) := (blk_cell BK320.out 0).trans rfl; have hcz14_1 : w11.cell? ⟨gb320, 1, none⟩ = some (.slice none 0 0) := (blk_cell BK320.out 1).trans rfl; have hfz14_0 := blk_frozen BK320.out 0; have hfz14_1 := blk_frozen BK320.out 1))
  refine bodyPost_ret (results_cell_row rfl _ _ gb320 49 #[.int .i64 a0_0, .slice Ao12 t322.length co12] (0, 0) _ rfl (by (with_reducible repeat (first | refine blk_drewN ?_ _ | refine blk_drew ?_ | refine blk_alloc ?_ _)); refine blk_put (cs := #[.int .i64 a0_0, .slice none 0 0]) ?_ 1 _ rfl; (with_reducible repeat (first | refine blk_drewN ?_ _ | refine blk_drew ?_ | refine blk_alloc ?_ _)); refine blk_put (cs := #[.int .i64 0, .slice none 0 0]) ?_ 0 _ rfl; (with_reducible repeat (first | refine blk_drewN ?_ _ | refine blk_drew ?_ | refine blk_alloc ?_ _)); refine blk_far ?_ NB320_321.out _; (with_reducible repeat (first | refine blk_drewN ?_ _ | refine blk_drew ?_ | refine blk_alloc ?_ _)); exact BK320.out) Try.underlying49 rfl (by kernel_rfl)) rfl ?_
  exact ⟨_, by first | rfl | (simp [errW_none, errW_some] <;> rfl) | (simp [*, errW_none, errW_some] <;> rfl), by (with_reducible repeat (first | apply Kd.S_alloc | apply Kd.S_drewN | apply Kd.S_drew)); exact Kd.S_mono (Kd.S_far (p := ⟨gb320, 1, none⟩) (Kd.S_far (p := ⟨gb320, 0, none⟩) (Kd.S_far (p := ⟨gb321, 1, none⟩) (Kd.S_types (Kd.S_types HO324.out BK321.out (by decide)) BK320.out (by decide)) (fun _ hk => hk.1.2) (.slice Ao12 t322.length co12)) (fun _ hk => hk.2) (.int .i64 a0_0)) (fun _ hk => hk.2) (.slice Ao12 t322.length co12)) (fun _ hk => trivial), by repeat (first | (with_reducible first | exact HB.out | apply below_alloc | apply pw_below_drewN | apply below_drew1 | refine below_set ?_ GE319.out | refine below_set ?_ GE320.out | refine below_set ?_ GE321.out) | exact HB.out)⟩

end Go.Proofs.Ytngjaajcdbodeaa.All
