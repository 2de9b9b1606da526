/- The texts on which the row FnExactTight rests, part 4: contracts of the functions that it reaches and plain laws of what they compute. No condition. -/
import Derived.Test.YtngjaajcdbodeaaWd1
import Derived.Deep.Slices
import Derived.ChangeSame
import Derived.ChangeArms
import Derived.KernelRfl
import Derived.Test.YtngjaajcdbodeaaMgFnExactTight1
import Derived.Test.YtngjaajcdbodeaaMgFnExactTight2
import Derived.Test.YtngjaajcdbodeaaMgFnExactTight3
namespace Go.Proofs.Ytngjaajcdbodeaa.All
open Go.RowKit Go.Proofs.YtngjaajcdbodeaaW.PrintWords Go.Proofs.YtngjaajcdbodeaaW.PrintLast Go.Proofs.YtngjaajcdbodeaaW.PrintMore
attribute [local go_sem] max2_int min2_int max_two min_two max_three min_three max_four min_four   -- for this text's walks alone
set_option linter.unusedVariables false
set_option linter.unusedSimpArgs false

/-! ### impl_NodeAt: function 96 -/
def impl_NodeAt.f (a0_0 : Int) (l0_1 : List (S90)) (a1 : Int) : Option (Bool × (List (S103))) := (impl_exists.f a0_0 l0_1 a1).bind fun t733 => (if t733 = true then (if 0 ≤ a1 then (if a1 < (l0_1.length : Int) then ((impl_copyNode.f ((rd_T90 l0_1 a1).f1.f0) ((rd_T90 l0_1 a1).f1.f1)).bind fun bt735 => (some (bt735.1, bt735.2))) else (none)) else (none)) else (some (false, ([] : List (S103)))))
set_option maxHeartbeats 8000000 in
set_option maxRecDepth 100000 in
theorem impl_NodeAt.calls (a0_0 : Int) (A0_1 : Option Addr) (c0_1 : Nat) (l0_1 : List (S90)) (a1 : Int) (r1 : Bool) (r2 : List (S103)) (w : World) (hr0_1 : Kd.C k90 w A0_1 l0_1.length l0_1) (hc0_1 : l0_1.length ≤ c0_1) (h : impl_NodeAt.f a0_0 l0_1 a1 = some (r1, r2)) :
    Calls Try.prog 96 #[.agg #[.int .i64 a0_0, .slice A0_1 l0_1.length c0_1], .int .i64 a1] w fun e w' => ∃ v1_ : Value, e = .returned (.agg #[.bool r1, v1_]) ∧ Kd.R k103 103 w' w.heap.size (fun _ => True) v1_ r2 ∧ Below w.heap.size w w' := by
  have hu49 := Try.underlying49
  have hu54 := Try.underlying54
  have HR0_1 := Aside0.mk hr0_1
  have HC0_1 := Aside0.mk hc0_1
  clear hr0_1 hc0_1
  have HB := Aside0.mk (Below.refl w.heap.size w)
  have H : ((impl_exists.f a0_0 l0_1 a1).bind fun t733 => (if t733 = true then (if 0 ≤ a1 then (if a1 < (l0_1.length : Int) then ((impl_copyNode.f ((rd_T90 l0_1 a1).f1.f0) ((rd_T90 l0_1 a1).f1.f1)).bind fun bt735 => (some (bt735.1, bt735.2))) else (none)) else (none)) else (some (false, ([] : List (S103)))))) = some (r1, r2) := h
  clear h
  replace H := Option.bind_eq_some_iff.mp H
  obtain ⟨t733, A30, H⟩ := H
  replace H : (if t733 = true then (if 0 ≤ a1 then (if a1 < (l0_1.length : Int) then ((impl_copyNode.f ((rd_T90 l0_1 a1).f1.f0) ((rd_T90 l0_1 a1).f1.f1)).bind fun bt735 => (some (bt735.1, bt735.2))) else (none)) else (none)) else (some (false, ([] : List (S103))))) = some (r1, r2) := H
  have A3 := Aside0.mk A30
  clear A30
  by_cases c4 : t733 = true
  · subst c4
    have H1 : (if 0 ≤ a1 then (if a1 < (l0_1.length : Int) then ((impl_copyNode.f ((rd_T90 l0_1 a1).f1.f0) ((rd_T90 l0_1 a1).f1.f1)).bind fun bt735 => (some (bt735.1, bt735.2))) else (none)) else (none)) = some (r1, r2) := by rw [if_pos rfl] at H; exact H
    clear H
    have H := H1
    clear H1
    by_cases c5 : 0 ≤ a1
    · rw [if_pos c5] at H
      have c5b0 : decide (0 ≤ a1) = true := decide_eq_true c5
      clear c5
      by_cases c6 : a1 < (l0_1.length : Int)
      · rw [if_pos c6] at H
        have c6b0 : decide (a1 < (l0_1.length : Int)) = true := decide_eq_true c6
        clear c6
        replace H := Option.bind_eq_some_iff.mp H
        obtain ⟨⟨t735, t736⟩, A70, H⟩ := H
        replace H : (some (t735, t736)) = some (r1, r2) := H
        have A7 := Aside0.mk A70
        clear A70
        simp only [Option.some.injEq, Prod.mk.injEq] at H
        obtain ⟨rfl, rfl⟩ := H
        go_enter Try.func96, Try.ntmps96
        go_wp2_with (first | ((with_reducible refine gate_dst (N := 2) rfl ?_); refine box_event ?hg (N := 2) ?hd (cs := #[.int .i64 a0_0, .slice A0_1 l0_1.length c0_1]) (t := 49) ?hr ?_; (case hd => rfl); (case hg => rfl); (case hr => first | (go_simp; done) | (go_simp; rfl)); intro gb731 hg w8 hbox hb; have n0_ := Aside0.mk (below_step (by repeat (first | (with_reducible first | exact HB.out | apply below_alloc | apply pw_below_drewN | apply below_drew1) | exact HB.out)) hb); have n1_ := Aside0.mk (hbox); have n2_ := Aside0.mk ((by rw [hg]; exact (below_size (by repeat (first | (with_reducible first | exact HB.out | apply below_alloc | apply pw_below_drewN | apply below_drew1) | exact HB.out))) : w.heap.size ≤ gb731)); have n3_ := Aside0.mk ((by rw [hg]; exact (below_size (by repeat (first | (with_reducible first | exact HB.out | apply below_alloc | apply pw_below_drewN | apply below_drew1) | exact HB.out))) : w.heap.size ≤ gb731)); clear HB; have HB := n0_; have BK731 := n1_; have GW731 := n2_; have GE731 := n3_; clear n0_ n1_ n2_ n3_; clear hb hbox hg) | ((with_reducible refine gate_dst (N := 4) rfl ?_); refine box_event ?hg (N := 4) ?hd (cs := #[.bool false, .slice none 0 0]) (t := 54) ?hr ?_; (case hd => rfl); (case hg => rfl); (case hr => first | (go_simp; done) | (go_simp; rfl)); intro gb732 hg w9 hbox hb; have n0_ := Aside0.mk (blk_below (g := gb731) (o := .cells #[.int .i64 a0_0, .slice A0_1 l0_1.length c0_1] 49 (0, 0)) (by (with_reducible repeat (first | refine blk_drewN ?_ _ | refine blk_drew ?_ | refine blk_alloc ?_ _)); exact BK731.out) hb); have n1_ := Aside0.mk (below_step (by repeat (first | (with_reducible first | exact HB.out | apply below_alloc | apply pw_below_drewN | apply below_drew1 | refine below_set ?_ GE731.out) | exact HB.out)) hb); have n2_ := Aside0.mk (hbox); have n3_ := Aside0.mk ((by rw [hg]; exact (below_size (by repeat (first | (with_reducible first | exact HB.out | apply below_alloc | apply pw_below_drewN | apply below_drew1 | refine below_set ?_ GE731.out) | exact HB.out))) : w.heap.size ≤ gb732)); have n4_ := Aside0.mk ((by rw [hg]; exact (below_size (by repeat (first | (with_reducible first | exact HB.out | apply below_alloc | apply pw_below_drewN | apply below_drew1 | refine below_set ?_ GE731.out) | exact HB.out))) : w.heap.size ≤ gb732)); have n5_ := Aside0.mk ((by rw [hg]; exact Nat.ne_of_lt (blk_lt (g := gb731) (o := .cells #[.int .i64 a0_0, .slice A0_1 l0_1.length c0_1] 49 (0, 0)) (by (with_reducible repeat (first | refine blk_drewN ?_ _ | refine blk_drew ?_ | refine blk_alloc ?_ _)); exact BK731.out)) : gb731 ≠ gb732)); have n6_ := Aside0.mk ((by rw [hg]; exact Nat.ne_of_gt (blk_lt (g := gb731) (o := .cells #[.int .i64 a0_0, .slice A0_1 l0_1.length c0_1] 49 (0, 0)) (by (with_reducible repeat (first | refine blk_drewN ?_ _ | refine blk_drew ?_ | refine blk_alloc ?_ _)); exact BK731.out)) : gb732 ≠ gb731)); clear BK731; clear HB; have BK731 := n0_; have HB := n1_; have BK732 := n2_; have GW732 := n3_; have GE732 := n4_; have NB731_732 := n5_; have NB732_731 := n6_; clear n0_ n1_ n2_ n3_ n4_ n5_ n6_; clear hb hbox hg; have hnb10 := NB731_732.out; have hnc10 := NB732_731.out; have hcz11_0 : w9.cell? ⟨gb731, 0, none⟩ = some (.int .i64 a0_0) := (blk_cell BK731.out 0).trans rfl; have hcz11_1 : w9.cell? ⟨gb731, 1, none⟩ = some (.slice A0_1 l0_1.length c0_1) := (blk_cell BK731.out 1).trans rfl; have hfz11_0 := blk_frozen BK731.out 0; have hfz11_1 := blk_frozen BK731.out 1) | ((with_reducible refine gate_callee (f := 77) rfl ?_); refine goesL_ (some 7) rfl rfl Try.func77 (by kernel_rfl) rfl #[.agg #[.int .i64 a0_0, .slice A0_1 l0_1.length c0_1], .int .i64 a1] rfl (by (try simp only [List.map_toArray, List.map_cons, List.map_nil]); first | done | rfl | (simp only [List.length_drop, List.length_take]; rfl)) ?_; (with_reducible refine (impl_exists.calls a0_0 _ _ l0_1 a1 true _ ?side1 ?side2 A3.out).mono ?_); (case side1 => repeat (first | exact (Kd.C_below HR0_1.out HB.out) | (with_reducible refine Kd.C_alloc ?_ _) | (with_reducible refine Kd.C_drewN ?_ _) | (with_reducible refine Kd.C_drew ?_))); (case side2 => exact HC0_1.out); rintro e w12 ⟨rfl, hb⟩; refine ⟨_, rfl, ?_⟩; have n0_ := Aside0.mk (blk_below (g := gb731) (o := .cells #[.int .i64 a0_0, .slice A0_1 l0_1.length c0_1] 49 (0, 0)) (by (with_reducible repeat (first | refine blk_drewN ?_ _ | refine blk_drew ?_ | refine blk_alloc ?_ _)); exact BK731.out) hb); have n1_ := Aside0.mk (blk_below (g := gb732) (o := .cells #[.bool false, .slice none 0 0] 54 (0, 0)) (by (with_reducible repeat (first | refine blk_drewN ?_ _ | refine blk_drew ?_ | refine blk_alloc ?_ _)); exact BK732.out) hb); have n2_ := Aside0.mk (below_step (by repeat (first | (with_reducible first | exact HB.out | apply below_alloc | apply pw_below_drewN | apply below_drew1 | refine below_set ?_ GE731.out | refine below_set ?_ GE732.out) | exact HB.out)) hb); clear BK731; clear BK732; clear HB; have BK731 := n0_; have BK732 := n1_; have HB := n2_; clear n0_ n1_ n2_; (try clear hb); (try clear hb2); (try clear hk); (try clear hi); have hcz13_0 : w12.cell? ⟨gb731, 0, none⟩ = some (.int .i64 a0_0) := (blk_cell BK731.out 0).trans rfl; have hcz13_1 : w12.cell? ⟨gb731, 1, none⟩ = some (.slice A0_1 l0_1.length c0_1) := (blk_cell BK731.out 1).trans rfl; have hfz13_0 := blk_frozen BK731.out 0; have hfz13_1 := blk_frozen BK731.out 1; have p734 : 0 ≤ (a1 : Int) := of_decide_eq_true (by first | (with_reducible assumption) | assumption); have q734 : a1 < (l0_1.length : Int) := of_decide_eq_true (by first | (with_reducible assumption) | assumption); obtain ⟨ad734, A734_2, c734_2, e734, hx734_0, hx734_1, hx734_2, hl734_2, hi734_2⟩ := at_T90 HR0_1.out a1 p734 q734; cases e734; replace hx734_0 := (HB.out.cell (World.block_lt_of_cell? w _ hx734_0)).trans hx734_0; replace hx734_1 := (HB.out.cell (World.block_lt_of_cell? w _ hx734_1)).trans hx734_1; replace hx734_2 := (HB.out.cell (World.block_lt_of_cell? w _ hx734_2)).trans hx734_2; have HR734_2 := Aside0.mk hi734_2; have HC734_2 := Aside0.mk hl734_2; clear hi734_2 hl734_2; replace p734 := eq_true p734; replace q734 := eq_true q734) | ((with_reducible refine gate_callee (f := 78) rfl ?_); refine goesL_ (some 16) rfl rfl Try.func78 (by kernel_rfl) rfl #[.agg #[.bool ((rd_T90 l0_1 a1).f1.f0), .slice A734_2 ((rd_T90 l0_1 a1).f1.f1).length c734_2]] rfl (by (try simp only [List.map_toArray, List.map_cons, List.map_nil]); first | done | rfl | (simp only [List.length_drop, List.length_take]; rfl)) ?_; (with_reducible refine (impl_copyNode.calls ((rd_T90 l0_1 a1).f1.f0) _ _ ((rd_T90 l0_1 a1).f1.f1) t735 t736 _ ?side1 ?side2 A7.out).mono ?_); (case side1 => repeat (first | exact (Kd.C_below HR734_2.out HB.out) | (with_reducible refine Kd.C_alloc ?_ _) | (with_reducible refine Kd.C_drewN ?_ _) | (with_reducible refine Kd.C_drew ?_))); (case side2 => exact HC734_2.out); rintro e w14 ⟨v737, rfl, ho0, hb⟩; refine ⟨_, rfl, ?_⟩; have n0_ := Aside0.mk (Kd.R_lower ho0 (below_size (by repeat (first | (with_reducible first | exact HB.out | apply below_alloc | apply pw_below_drewN | apply below_drew1 | refine below_set ?_ GE731.out | refine below_set ?_ GE732.out) | exact HB.out)))); have n1_ := Aside0.mk (blk_below (g := gb731) (o := .cells #[.int .i64 a0_0, .slice (some ad734) l0_1.length c0_1] 49 (0, 0)) (by (with_reducible repeat (first | refine blk_drewN ?_ _ | refine blk_drew ?_ | refine blk_alloc ?_ _)); exact BK731.out) hb); have n2_ := Aside0.mk (blk_below (g := gb732) (o := .cells #[.bool false, .slice none 0 0] 54 (0, 0)) (by (with_reducible repeat (first | refine blk_drewN ?_ _ | refine blk_drew ?_ | refine blk_alloc ?_ _)); exact BK732.out) hb); have n3_ := Aside0.mk (below_step (by repeat (first | (with_reducible first | exact HB.out | apply below_alloc | apply pw_below_drewN | apply below_drew1 | refine below_set ?_ GE731.out | refine below_set ?_ GE732.out) | exact HB.out)) hb); clear BK731; clear BK732; clear HB; have HO738 := n0_; have BK731 := n1_; have BK732 := n2_; have HB := n3_; clear n0_ n1_ n2_ n3_; (try clear hb); (try clear hb2); (try clear hk); (try clear hi); (try clear ho0); have hcz15_0 : w14.cell? ⟨gb732, 0, none⟩ = some (.bool false) := (blk_cell BK732.out 0).trans rfl; have hcz15_1 : w14.cell? ⟨gb732, 1, none⟩ = some (.slice none 0 0) := (blk_cell BK732.out 1).trans rfl; have hfz15_0 := blk_frozen BK732.out 0; have hfz15_1 := blk_frozen BK732.out 1; obtain ⟨Ao16, co16, eo16⟩ := Kd.R_slice HO738.out; subst eo16))
        refine bodyPost_ret (results_cell_row rfl _ _ gb732 54 #[.bool t735, .slice Ao16 t736.length co16] (0, 0) _ rfl (by (with_reducible repeat (first | refine blk_drewN ?_ _ | refine blk_drew ?_ | refine blk_alloc ?_ _)); refine blk_put (cs := #[.bool t735, .slice none 0 0]) ?_ 1 _ rfl; (with_reducible repeat (first | refine blk_drewN ?_ _ | refine blk_drew ?_ | refine blk_alloc ?_ _)); refine blk_put (cs := #[.bool false, .slice none 0 0]) ?_ 0 _ rfl; (with_reducible repeat (first | refine blk_drewN ?_ _ | refine blk_drew ?_ | refine blk_alloc ?_ _)); exact BK732.out) Try.underlying54 rfl (by kernel_rfl)) rfl ?_
        exact ⟨_, by first | rfl | (simp [errW_none, errW_some] <;> rfl) | (simp [*, errW_none, errW_some] <;> rfl), by (with_reducible repeat (first | apply Kd.R_alloc | apply Kd.R_drewN | apply Kd.R_drew)); exact Kd.R_mono (Kd.R_far (p := ⟨gb732, 1, none⟩) (Kd.R_far (p := ⟨gb732, 0, none⟩) (Kd.R_types HO738.out BK732.out (by decide)) (fun _ hk => hk.2) (.bool t735)) (fun _ hk => hk.2) (.slice Ao16 t736.length co16)) (fun _ hk => trivial), by repeat (first | (with_reducible first | exact HB.out | apply below_alloc | apply pw_below_drewN | apply below_drew1 | refine below_set ?_ GE731.out | refine below_set ?_ GE732.out) | exact HB.out)⟩
      · rw [if_neg c6] at H
        exact absurd H (by simp)
    · rw [if_neg c5] at H
      exact absurd H (by simp)
  · replace c4 := Bool.eq_false_iff.mpr c4
    subst c4
    have H1 : (some (false, ([] : List (S103)))) = some (r1, r2) := by rw [if_neg (show ¬ (false = true) by decide)] at H; exact H
    clear H
    have H := H1
    clear H1
    simp only [Option.some.injEq, Prod.mk.injEq] at H
    obtain ⟨rfl, rfl⟩ := H
    go_enter Try.func96, Try.ntmps96
    go_wp2_with (first | ((with_reducible refine gate_dst (N := 2) rfl ?_); refine box_event ?hg (N := 2) ?hd (cs := #[.int .i64 a0_0, .slice A0_1 l0_1.length c0_1]) (t := 49) ?hr ?_; (case hd => rfl); (case hg => rfl); (case hr => first | (go_simp; done) | (go_simp; rfl)); intro gb731 hg w17 hbox hb; have n0_ := Aside0.mk (below_step (by repeat (first | (with_reducible first | exact HB.out | apply below_alloc | apply pw_below_drewN | apply below_drew1) | exact HB.out)) hb); have n1_ := Aside0.mk (hbox); have n2_ := Aside0.mk ((by rw [hg]; exact (below_size (by repeat (first | (with_reducible first | exact HB.out | apply below_alloc | apply pw_below_drewN | apply below_drew1) | exact HB.out))) : w.heap.size ≤ gb731)); have n3_ := Aside0.mk ((by rw [hg]; exact (below_size (by repeat (first | (with_reducible first | exact HB.out | apply below_alloc | apply pw_below_drewN | apply below_drew1) | exact HB.out))) : w.heap.size ≤ gb731)); clear HB; have HB := n0_; have BK731 := n1_; have GW731 := n2_; have GE731 := n3_; clear n0_ n1_ n2_ n3_; clear hb hbox hg) | ((with_reducible refine gate_dst (N := 4) rfl ?_); refine box_event ?hg (N := 4) ?hd (cs := #[.bool false, .slice none 0 0]) (t := 54) ?hr ?_; (case hd => rfl); (case hg => rfl); (case hr => first | (go_simp; done) | (go_simp; rfl)); intro gb732 hg w18 hbox hb; have n0_ := Aside0.mk (blk_below (g := gb731) (o := .cells #[.int .i64 a0_0, .slice A0_1 l0_1.length c0_1] 49 (0, 0)) (by (with_reducible repeat (first | refine blk_drewN ?_ _ | refine blk_drew ?_ | refine blk_alloc ?_ _)); exact BK731.out) hb); have n1_ := Aside0.mk (below_step (by repeat (first | (with_reducible first | exact HB.out | apply below_alloc | apply pw_below_drewN | apply below_drew1 | refine below_set ?_ GE731.out) | exact HB.out)) hb); have n2_ := Aside0.mk (hbox); have n3_ := Aside0.mk ((by rw [hg]; exact (below_size (by repeat (first | (with_reducible first | exact HB.out | apply below_alloc | apply pw_below_drewN | apply below_drew1 | refine below_set ?_ GE731.out) | exact HB.out))) : w.heap.size ≤ gb732)); have n4_ := Aside0.mk ((by rw [hg]; exact (below_size (by repeat (first | (with_reducible first | exact HB.out | apply below_alloc | apply pw_below_drewN | apply below_drew1 | refine below_set ?_ GE731.out) | exact HB.out))) : w.heap.size ≤ gb732)); have n5_ := Aside0.mk ((by rw [hg]; exact Nat.ne_of_lt (blk_lt (g := gb731) (o := .cells #[.int .i64 a0_0, .slice A0_1 l0_1.length c0_1] 49 (0, 0)) (by (with_reducible repeat (first | refine blk_drewN ?_ _ | refine blk_drew ?_ | refine blk_alloc ?_ _)); exact BK731.out)) : gb731 ≠ gb732)); have n6_ := Aside0.mk ((by rw [hg]; exact Nat.ne_of_gt (blk_lt (g := gb731) (o := .cells #[.int .i64 a0_0, .slice A0_1 l0_1.length c0_1] 49 (0, 0)) (by (with_reducible repeat (first | refine blk_drewN ?_ _ | refine blk_drew ?_ | refine blk_alloc ?_ _)); exact BK731.out)) : gb732 ≠ gb731)); clear BK731; clear HB; have BK731 := n0_; have HB := n1_; have BK732 := n2_; have GW732 := n3_; have GE732 := n4_; have NB731_732 := n5_; have NB732_731 := n6_; clear n0_ n1_ n2_ n3_ n4_ n5_ n6_; clear hb hbox hg; have hnb19 := NB731_732.out; have hnc19 := NB732_731.out; have hcz20_0 : w18.cell? ⟨gb731, 0, none⟩ = some (.int .i64 a0_0) := (blk_cell BK731.out 0).trans rfl; have hcz20_1 : w18.cell? ⟨gb731, 1, none⟩ = some (.slice A0_1 l0_1.length c0_1) := (blk_cell BK731.out 1).trans rfl; have hfz20_0 := blk_frozen BK731.out 0; have hfz20_1 := blk_frozen BK731.out 1) | ((with_reducible refine gate_callee (f := 77) rfl ?_); refine goesL_ (some 7) rfl rfl Try.func77 (by kernel_rfl) rfl #[.agg #[.int .i64 a0_0, .slice A0_1 l0_1.length c0_1], .int .i64 a1] rfl (by (try simp only [List.map_toArray, List.map_cons, List.map_nil]); first | done | rfl | (simp only [List.length_drop, List.length_take]; rfl)) ?_; (with_reducible refine (impl_exists.calls a0_0 _ _ l0_1 a1 false _ ?side1 ?side2 A3.out).mono ?_); (case side1 => repeat (first | exact (Kd.C_below HR0_1.out HB.out) | (with_reducible refine Kd.C_alloc ?_ _) | (with_reducible refine Kd.C_drewN ?_ _) | (with_reducible refine Kd.C_drew ?_))); (case side2 => exact HC0_1.out); rintro e w21 ⟨rfl, hb⟩; refine ⟨_, rfl, ?_⟩; have n0_ := Aside0.mk (blk_below (g := gb731) (o := .cells #[.int .i64 a0_0, .slice A0_1 l0_1.length c0_1] 49 (0, 0)) (by (with_reducible repeat (first | refine blk_drewN ?_ _ | refine blk_drew ?_ | refine blk_alloc ?_ _)); exact BK731.out) hb); have n1_ := Aside0.mk (blk_below (g := gb732) (o := .cells #[.bool false, .slice none 0 0] 54 (0, 0)) (by (with_reducible repeat (first | refine blk_drewN ?_ _ | refine blk_drew ?_ | refine blk_alloc ?_ _)); exact BK732.out) hb); have n2_ := Aside0.mk (below_step (by repeat (first | (with_reducible first | exact HB.out | apply below_alloc | apply pw_below_drewN | apply below_drew1 | refine below_set ?_ GE731.out | refine below_set ?_ GE732.out) | exact HB.out)) hb); clear BK731; clear BK732; clear HB; have BK731 := n0_; have BK732 := n1_; have HB := n2_; clear n0_ n1_ n2_; (try clear hb); (try clear hb2); (try clear hk); (try clear hi); have hcz22_0 : w21.cell? ⟨gb732, 0, none⟩ = some (.bool false) := (blk_cell BK732.out 0).trans rfl; have hcz22_1 : w21.cell? ⟨gb732, 1, none⟩ = some (.slice none 0 0) := (blk_cell BK732.out 1).trans rfl; have hfz22_0 := blk_frozen BK732.out 0; have hfz22_1 := blk_frozen BK732.out 1))
    refine bodyPost_ret (results_cell_row rfl _ _ gb732 54 #[.bool false, .slice none 0 0] (0, 0) _ rfl (by (with_reducible repeat (first | refine blk_drewN ?_ _ | refine blk_drew ?_ | refine blk_alloc ?_ _)); refine blk_put (cs := #[.bool false, .slice none 0 0]) ?_ 1 _ rfl; (with_reducible repeat (first | refine blk_drewN ?_ _ | refine blk_drew ?_ | refine blk_alloc ?_ _)); refine blk_put (cs := #[.bool false, .slice none 0 0]) ?_ 0 _ rfl; (with_reducible repeat (first | refine blk_drewN ?_ _ | refine blk_drew ?_ | refine blk_alloc ?_ _)); exact BK732.out) Try.underlying54 rfl (by kernel_rfl)) rfl ?_
    exact ⟨_, by first | rfl | (simp [errW_none, errW_some] <;> rfl) | (simp [*, errW_none, errW_some] <;> rfl), by first | exact Kd.R_nil _ _ _ _ _ | exact Kd.N_nil _ _ _ _ _ | exact Kd.V_nil _ _ _ _ _ | exact Kd.Q_nil _ _ _ _ _ | exact Kd.S_nil _ _ _ _ _, by repeat (first | (with_reducible first | exact HB.out | apply below_alloc | apply pw_below_drewN | apply below_drew1 | refine below_set ?_ GE731.out | refine below_set ?_ GE732.out) | exact HB.out)⟩

end Go.Proofs.Ytngjaajcdbodeaa.All

namespace Go.Proofs.Ytngjaajcdbodeaa.All
open Go.RowKit Go.Proofs.YtngjaajcdbodeaaW.PrintWords Go.Proofs.YtngjaajcdbodeaaW.PrintLast Go.Proofs.YtngjaajcdbodeaaW.PrintMore
attribute [local go_sem] max2_int min2_int max_two min_two max_three min_three max_four min_four   -- for this text's walks alone
set_option linter.unusedVariables false
set_option linter.unusedSimpArgs false

attribute [local go_sem high] eqA32
/-! ### impl_Tight: function 44 -/
mutual
def impl_Tight.l0 : Nat → List Int → Int → Int → Int → List (S90) → Option (Bool)
  | 0, _, _, _, _, _ => none
  | k + 1, x8, x9, x10, x740000, x740001 => if x10 < x9 then (if 0 ≤ x10 then (if x10 < (x8.length : Int) then (if 0 ≤ (rd x8 x10) then (if (rd x8 x10) < (x740001.length : Int) then (if (rd_T90 x740001 (rd x8 x10)).f1.f0 = true then (impl_Tight.l0 k x8 x9 (wrap64 (x10 + 1)) x740000 x740001) else (impl_Tight.l1 k x8 x9 x10 ((rd_T90 x740001 (rd x8 x10)).f1.f1) (((rd_T90 x740001 (rd x8 x10)).f1.f1).length : Int) 0 x740000 x740001)) else (none)) else (none)) else (none)) else (none)) else (some true)
def impl_Tight.l1 : Nat → List Int → Int → Int → List (S103) → Int → Int → Int → List (S90) → Option (Bool)
  | 0, _, _, _, _, _, _, _, _ => none
  | k + 1, x8, x9, x10, x27, x28, x29, x740000, x740001 => if x29 < x28 then (if 0 ≤ x29 then (if x29 < (x27.length : Int) then ((impl_NodeAt.f x740000 x740001 ((rd_T103 x27 x29).f0)).bind fun bt748 => ((impl_BoundOf.f k bt748.1 bt748.2).bind fun bt752 => (if (!(((rd_T103 x27 x29).f1.f0) == bt752.1) || (!(((rd_T103 x27 x29).f1.f1) == bt752.2.1) || (!(((rd_T103 x27 x29).f1.f2) == bt752.2.2.1) || (!(((rd_T103 x27 x29).f1.f3) == bt752.2.2.2))))) = true then (some false) else (impl_Tight.l1 k x8 x9 x10 x27 x28 (wrap64 (x29 + 1)) x740000 x740001)))) else (none)) else (none)) else (impl_Tight.l0 k x8 x9 (wrap64 (x10 + 1)) x740000 x740001)
end
def impl_Tight.f (k : Nat) (a0_0 : Int) (l0_1 : List (S90)) : Option (Bool) := (impl_Reach.f k a0_0 l0_1).bind fun t740 => (impl_Tight.l0 k t740 (t740.length : Int) 0 a0_0 l0_1)
theorem impl_Tight.mono_l : ∀ k, (∀ y0 y1 y2 y3 y4, LeO (impl_Tight.l0 k y0 y1 y2 y3 y4) (impl_Tight.l0 (k + 1) y0 y1 y2 y3 y4)) ∧ (∀ y0 y1 y2 y3 y4 y5 y6 y7, LeO (impl_Tight.l1 k y0 y1 y2 y3 y4 y5 y6 y7) (impl_Tight.l1 (k + 1) y0 y1 y2 y3 y4 y5 y6 y7))
  | 0 => ⟨fun _ _ _ _ _ r h => by simp [impl_Tight.l0] at h, fun _ _ _ _ _ _ _ _ r h => by simp [impl_Tight.l1] at h⟩
  | k + 1 => by
    obtain ⟨ih0, ih1⟩ := impl_Tight.mono_l k
    refine ⟨?_, ?_⟩
    · intro y0 y1 y2 y3 y4
      unfold impl_Tight.l0
      repeat' first
      | (with_reducible exact ih0 _ _ _ _ _)
      | (with_reducible exact ih1 _ _ _ _ _ _ _ _)
      | (with_reducible exact impl_BoundOf.mono _ _ _)
      | (with_reducible exact impl_Reach.mono _ _ _)
      | (with_reducible exact LeO.refl _)
      | (with_reducible exact LeO.none _)
      | (with_reducible refine LeO.ite ?_ ?_)
      | (with_reducible refine LeO.bind ?_ (fun _ => ?_))
      | exact ih0 _ _ _ _ _
      | exact ih1 _ _ _ _ _ _ _ _
      | exact impl_BoundOf.mono _ _ _
      | exact impl_Reach.mono _ _ _
      | exact LeO.none _
      | refine LeO.ite ?_ ?_
      | refine LeO.bind ?_ (fun _ => ?_)
    · intro y0 y1 y2 y3 y4 y5 y6 y7
      unfold impl_Tight.l1
      repeat' first
      | (with_reducible exact ih0 _ _ _ _ _)
      | (with_reducible exact ih1 _ _ _ _ _ _ _ _)
      | (with_reducible exact impl_BoundOf.mono _ _ _)
      | (with_reducible exact impl_Reach.mono _ _ _)
      | (with_reducible exact LeO.refl _)
      | (with_reducible exact LeO.none _)
      | (with_reducible refine LeO.ite ?_ ?_)
      | (with_reducible refine LeO.bind ?_ (fun _ => ?_))
      | exact ih0 _ _ _ _ _
      | exact ih1 _ _ _ _ _ _ _ _
      | exact impl_BoundOf.mono _ _ _
      | exact impl_Reach.mono _ _ _
      | exact LeO.none _
      | refine LeO.ite ?_ ?_
      | refine LeO.bind ?_ (fun _ => ?_)
theorem impl_Tight.mono : ∀ a0 a1 k, LeO (impl_Tight.f k a0 a1) (impl_Tight.f (k + 1) a0 a1) := by
  intro a0 a1 k
  obtain ⟨ih0, ih1⟩ := impl_Tight.mono_l k
  unfold impl_Tight.f
  repeat' first
      | (with_reducible exact ih0 _ _ _ _ _)
      | (with_reducible exact ih1 _ _ _ _ _ _ _ _)
      | (with_reducible exact impl_BoundOf.mono _ _ _)
      | (with_reducible exact impl_Reach.mono _ _ _)
      | (with_reducible exact LeO.refl _)
      | (with_reducible exact LeO.none _)
      | (with_reducible refine LeO.ite ?_ ?_)
      | (with_reducible refine LeO.bind ?_ (fun _ => ?_))
      | exact ih0 _ _ _ _ _
      | exact ih1 _ _ _ _ _ _ _ _
      | exact impl_BoundOf.mono _ _ _
      | exact impl_Reach.mono _ _ _
      | exact LeO.none _
      | refine LeO.ite ?_ ?_
      | refine LeO.bind ?_ (fun _ => ?_)
def impl_Tight.T8 : Bool × List (List Nat × List Nat) := (true, [([], []), ([0], [0]), ([], []), ([], []), ([3], [3]), ([2, 4], [2, 4]), ([5, 5], [5]), ([1, 6], [1, 6])])
def impl_Tight.B8 : List Nat := [0, 1, 0, 0, 8, 28, 60, 127]
theorem impl_Tight.tab8 : rtab .any (opsOf Try.f44 8) = impl_Tight.T8 := by kernel_rfl
theorem impl_Tight.bits8 : waitsOk impl_Tight.T8.2 impl_Tight.B8 = true := by kernel_rfl
set_option maxHeartbeats 8000000 in
set_option maxRecDepth 100000 in
theorem impl_Tight.calls (k : Nat) (a0_0 : Int) (A0_1 : Option Addr) (c0_1 : Nat) (l0_1 : List (S90)) (r : Bool) (w : World) (hr0_1 : Kd.C k90 w A0_1 l0_1.length l0_1) (hc0_1 : l0_1.length ≤ c0_1) (h : impl_Tight.f k a0_0 l0_1 = some r) :
    Calls Try.prog 44 #[.agg #[.int .i64 a0_0, .slice A0_1 l0_1.length c0_1]] w fun e w' => e = .returned (.bool r) ∧ Below w.heap.size w w' := by
  have hu49 := Try.underlying49
  have hu103 := Try.underlying103
  have hu32 := Try.underlying32
  have HR0_1 := Aside0.mk hr0_1
  have HC0_1 := Aside0.mk hc0_1
  clear hr0_1 hc0_1
  have HB := Aside0.mk (Below.refl w.heap.size w)
  have H : ((impl_Reach.f k a0_0 l0_1).bind fun t740 => (impl_Tight.l0 k t740 (t740.length : Int) 0 a0_0 l0_1)) = some r := h
  clear h
  replace H := Option.bind_eq_some_iff.mp H
  obtain ⟨t740, A20, H⟩ := H
  replace H : (impl_Tight.l0 k t740 (t740.length : Int) 0 a0_0 l0_1) = some r := H
  have A2 := Aside0.mk A20
  clear A20
  have H' := Aside0.mk H
  clear H
  go_enter Try.func44, Try.ntmps44
  go_wp2_with (first | ((with_reducible refine gate_dst (N := 1) rfl ?_); refine box_event ?hg (N := 1) ?hd (cs := #[.int .i64 a0_0, .slice A0_1 l0_1.length c0_1]) (t := 49) ?hr ?_; (case hd => rfl); (case hg => rfl); (case hr => first | (go_simp; done) | (go_simp; rfl)); intro gb739 hg w3 hbox hb; have n0_ := Aside0.mk (below_step (by repeat (first | (with_reducible first | exact HB.out | apply below_alloc | apply pw_below_drewN | apply below_drew1) | exact HB.out)) hb); have n1_ := Aside0.mk (hbox); have n2_ := Aside0.mk ((by rw [hg]; exact (below_size (by repeat (first | (with_reducible first | exact HB.out | apply below_alloc | apply pw_below_drewN | apply below_drew1) | exact HB.out))) : w.heap.size ≤ gb739)); have n3_ := Aside0.mk ((by rw [hg]; exact (below_size (by repeat (first | (with_reducible first | exact HB.out | apply below_alloc | apply pw_below_drewN | apply below_drew1) | exact HB.out))) : w.heap.size ≤ gb739)); clear HB; have HB := n0_; have BK739 := n1_; have GW739 := n2_; have GE739 := n3_; clear n0_ n1_ n2_ n3_; clear hb hbox hg; have hcz4_0 : w3.cell? ⟨gb739, 0, none⟩ = some (.int .i64 a0_0) := (blk_cell BK739.out 0).trans rfl; have hcz4_1 : w3.cell? ⟨gb739, 1, none⟩ = some (.slice A0_1 l0_1.length c0_1) := (blk_cell BK739.out 1).trans rfl; have hfz4_0 := blk_frozen BK739.out 0; have hfz4_1 := blk_frozen BK739.out 1) | ((with_reducible refine gate_callee (f := 92) rfl ?_); refine goesL_ (some 8) rfl rfl Try.func92 (by kernel_rfl) rfl #[.agg #[.int .i64 a0_0, .slice A0_1 l0_1.length c0_1]] rfl (by (try simp only [List.map_toArray, List.map_cons, List.map_nil]); first | done | rfl | (simp only [List.length_drop, List.length_take]; rfl)) ?_; (with_reducible refine (impl_Reach.calls k a0_0 _ _ l0_1 t740 _ ?side1 ?side2 A2.out).mono ?_); (case side1 => repeat (first | exact (Kd.C_below HR0_1.out HB.out) | (with_reducible refine Kd.C_alloc ?_ _) | (with_reducible refine Kd.C_drewN ?_ _) | (with_reducible refine Kd.C_drew ?_))); (case side2 => exact HC0_1.out); rintro e w5 ⟨v741, rfl, ho0, hb⟩; refine ⟨_, rfl, ?_⟩; have n0_ := Aside0.mk (Kd.R_lower ho0 (below_size (by repeat (first | (with_reducible first | exact HB.out | apply below_alloc | apply pw_below_drewN | apply below_drew1 | refine below_set ?_ GE739.out) | exact HB.out)))); have n1_ := Aside0.mk (blk_below (g := gb739) (o := .cells #[.int .i64 a0_0, .slice A0_1 l0_1.length c0_1] 49 (0, 0)) (by (with_reducible repeat (first | refine blk_drewN ?_ _ | refine blk_drew ?_ | refine blk_alloc ?_ _)); exact BK739.out) hb); have n2_ := Aside0.mk (below_step (by repeat (first | (with_reducible first | exact HB.out | apply below_alloc | apply pw_below_drewN | apply below_drew1 | refine below_set ?_ GE739.out) | exact HB.out)) hb); clear BK739; clear HB; have HO742 := n0_; have BK739 := n1_; have HB := n2_; clear n0_ n1_ n2_; (try clear hb); (try clear hb2); (try clear hk); (try clear hi); (try clear ho0); obtain ⟨Ao6, co6, eo6⟩ := Kd.R_slice HO742.out; subst eo6))
  go_loopg [10] k (fun kq v10 w' => ∃ (x10_1 : Int), v10 = .int .i64 x10_1 ∧ Aside0 (impl_Tight.l0 kq t740 (t740.length : Int) x10_1 a0_0 l0_1 = some r) ∧ Aside0 (kq ≤ k) ∧ Aside0 (Kd.R (Kd.int .i64) 3 w' w.heap.size (fun _ => True) (.slice Ao6 t740.length co6) t740) ∧ Aside0 (w'.heap[gb739]? = some (.cells #[.int .i64 a0_0, (.slice A0_1 l0_1.length c0_1)] 49 (0, 0))) ∧ Aside0 (Below w.heap.size w w'))
  case atStart => exact ⟨(0), (by first | rfl | (simp; done) | (simp [*]; done)), H', ⟨Nat.le_refl _⟩, ⟨by (with_reducible repeat (first | apply Kd.R_alloc | apply Kd.R_drewN | apply Kd.R_drew)); exact HO742.out⟩, ⟨by (with_reducible repeat (first | refine blk_drewN ?_ _ | refine blk_drew ?_ | refine blk_alloc ?_ _)); exact BK739.out⟩, ⟨by repeat (first | (with_reducible first | exact HB.out | apply below_alloc | apply pw_below_drewN | apply below_drew1 | refine below_set ?_ GE739.out) | exact HB.out)⟩⟩
  case round =>
    clear H'
    try clear p2
    try clear c4
    try clear hcz4_0
    try clear hcz4_1
    try clear hfz4_0
    try clear hfz4_1
    obtain ⟨x10_1, rfl, HA, HK1, HO_8, BK739, HB⟩ := hrel
    cases gk with
    | zero => exact absurd HA.out (by simp [impl_Tight.l0])
    | succ k1 =>
      have H := HA.out
      clear HA
      simp only [impl_Tight.l0] at H
      by_cases c7 : x10_1 < (t740.length : Int)
      · rw [if_pos c7] at H
        have c7b0 : decide (x10_1 < (t740.length : Int)) = true := decide_eq_true c7
        clear c7
        by_cases c8 : 0 ≤ x10_1
        · rw [if_pos c8] at H
          have c8b0 : decide (0 ≤ x10_1) = true := decide_eq_true c8
          clear c8
          by_cases c9 : x10_1 < (t740.length : Int)
          · rw [if_pos c9] at H
            have c9b0 : decide (x10_1 < (t740.length : Int)) = true := decide_eq_true c9
            clear c9
            by_cases c10 : 0 ≤ (rd t740 x10_1)
            · rw [if_pos c10] at H
              have c10b0 : decide (0 ≤ (rd t740 x10_1)) = true := decide_eq_true c10
              clear c10
              by_cases c11 : (rd t740 x10_1) < (l0_1.length : Int)
              · rw [if_pos c11] at H
                have c11b0 : decide ((rd t740 x10_1) < (l0_1.length : Int)) = true := decide_eq_true c11
                clear c11
                obtain ⟨bq12, hbq12⟩ : ∃ b_ : Bool, b_ = ((rd_T90 l0_1 (rd t740 x10_1)).f1.f0) := ⟨_, rfl⟩
                replace H : (if bq12 = true then (impl_Tight.l0 k1 t740 (t740.length : Int) (wrap64 (x10_1 + 1)) a0_0 l0_1) else (impl_Tight.l1 k1 t740 (t740.length : Int) x10_1 ((rd_T90 l0_1 (rd t740 x10_1)).f1.f1) (((rd_T90 l0_1 (rd t740 x10_1)).f1.f1).length : Int) 0 a0_0 l0_1)) = some r := by rw [← hbq12] at H; exact H
                have Nbq12 := Aside0.mk hbq12
                clear hbq12
                by_cases c13 : bq12 = true
                · subst c13
                  have H1 : (impl_Tight.l0 k1 t740 (t740.length : Int) (wrap64 (x10_1 + 1)) a0_0 l0_1) = some r := by rw [if_pos rfl] at H; exact H
                  clear H
                  have H := H1
                  clear H1
                  have H' := Aside0.mk H
                  clear H
                  have p743 : 0 ≤ (x10_1 : Int) := of_decide_eq_true (by first | (with_reducible assumption) | assumption)
                  have q743 : x10_1 < (t740.length : Int) := of_decide_eq_true (by first | (with_reducible assumption) | assumption)
                  obtain ⟨ad743, e743, hx743_0⟩ := Kd.at_int (Kd.R_reads' HO_8.out).2.2 x10_1 p743 q743
                  cases e743
                  replace p743 := eq_true p743
                  replace q743 := eq_true q743
                  have hcz14_0 : wr.cell? ⟨gb739, 0, none⟩ = some (.int .i64 a0_0) := (blk_cell BK739.out 0).trans rfl
                  have hcz14_1 : wr.cell? ⟨gb739, 1, none⟩ = some (.slice A0_1 l0_1.length c0_1) := (blk_cell BK739.out 1).trans rfl
                  have hfz14_0 := blk_frozen BK739.out 0
                  have hfz14_1 := blk_frozen BK739.out 1
                  have p744 : 0 ≤ ((rd t740 x10_1) : Int) := of_decide_eq_true (by first | (with_reducible assumption) | assumption)
                  have q744 : (rd t740 x10_1) < (l0_1.length : Int) := of_decide_eq_true (by first | (with_reducible assumption) | assumption)
                  obtain ⟨ad744, A744_2, c744_2, e744, hx744_0, hx744_1, hx744_2, hl744_2, hi744_2⟩ := at_T90 HR0_1.out (rd t740 x10_1) p744 q744
                  (try rw [← Nbq12.out] at hx744_0)
                  (try rw [← Nbq12.out] at hx744_1)
                  cases e744
                  replace hx744_0 := (HB.out.cell (World.block_lt_of_cell? w _ hx744_0)).trans hx744_0
                  replace hx744_1 := (HB.out.cell (World.block_lt_of_cell? w _ hx744_1)).trans hx744_1
                  replace hx744_2 := (HB.out.cell (World.block_lt_of_cell? w _ hx744_2)).trans hx744_2
                  have HR744_2 := Aside0.mk hi744_2
                  have HC744_2 := Aside0.mk hl744_2
                  clear hi744_2 hl744_2
                  replace p744 := eq_true p744
                  replace q744 := eq_true q744
                  go_wp2
                  go_roundg k1
                  case measure => have := HK1.out; omega
                  case rel => exact ⟨(wrap64 (x10_1 + 1)), (by first | rfl | (simp; done) | (simp [*]; done)), H', ⟨by have := HK1.out; omega⟩, ⟨by (with_reducible repeat (first | apply Kd.R_alloc | apply Kd.R_drewN | apply Kd.R_drew)); exact HO_8.out⟩, ⟨by (with_reducible repeat (first | refine blk_drewN ?_ _ | refine blk_drew ?_ | refine blk_alloc ?_ _)); exact BK739.out⟩, ⟨by repeat (first | (with_reducible first | exact HB.out | apply below_alloc | apply pw_below_drewN | apply below_drew1 | refine below_set ?_ GE739.out) | exact HB.out)⟩⟩
                · replace c13 := Bool.eq_false_iff.mpr c13
                  subst c13
                  have H1 : (impl_Tight.l1 k1 t740 (t740.length : Int) x10_1 ((rd_T90 l0_1 (rd t740 x10_1)).f1.f1) (((rd_T90 l0_1 (rd t740 x10_1)).f1.f1).length : Int) 0 a0_0 l0_1) = some r := by rw [if_neg (show ¬ (false = true) by decide)] at H; exact H
                  clear H
                  have H := H1
                  clear H1
                  have H' := Aside0.mk H
                  clear H
                  have p743 : 0 ≤ (x10_1 : Int) := of_decide_eq_true (by first | (with_reducible assumption) | assumption)
                  have q743 : x10_1 < (t740.length : Int) := of_decide_eq_true (by first | (with_reducible assumption) | assumption)
                  obtain ⟨ad743, e743, hx743_0⟩ := Kd.at_int (Kd.R_reads' HO_8.out).2.2 x10_1 p743 q743
                  cases e743
                  replace p743 := eq_true p743
                  replace q743 := eq_true q743
                  have hcz15_0 : wr.cell? ⟨gb739, 0, none⟩ = some (.int .i64 a0_0) := (blk_cell BK739.out 0).trans rfl
                  have hcz15_1 : wr.cell? ⟨gb739, 1, none⟩ = some (.slice A0_1 l0_1.length c0_1) := (blk_cell BK739.out 1).trans rfl
                  have hfz15_0 := blk_frozen BK739.out 0
                  have hfz15_1 := blk_frozen BK739.out 1
                  have p744 : 0 ≤ ((rd t740 x10_1) : Int) := of_decide_eq_true (by first | (with_reducible assumption) | assumption)
                  have q744 : (rd t740 x10_1) < (l0_1.length : Int) := of_decide_eq_true (by first | (with_reducible assumption) | assumption)
                  obtain ⟨ad744, A744_2, c744_2, e744, hx744_0, hx744_1, hx744_2, hl744_2, hi744_2⟩ := at_T90 HR0_1.out (rd t740 x10_1) p744 q744
                  (try rw [← Nbq12.out] at hx744_0)
                  (try rw [← Nbq12.out] at hx744_1)
                  cases e744
                  replace hx744_0 := (HB.out.cell (World.block_lt_of_cell? w _ hx744_0)).trans hx744_0
                  replace hx744_1 := (HB.out.cell (World.block_lt_of_cell? w _ hx744_1)).trans hx744_1
                  replace hx744_2 := (HB.out.cell (World.block_lt_of_cell? w _ hx744_2)).trans hx744_2
                  have HR744_2 := Aside0.mk hi744_2
                  have HC744_2 := Aside0.mk hl744_2
                  clear hi744_2 hl744_2
                  replace p744 := eq_true p744
                  replace q744 := eq_true q744
                  have p745 : 0 ≤ ((rd t740 x10_1) : Int) := of_decide_eq_true (by first | (with_reducible assumption) | assumption)
                  have q745 : (rd t740 x10_1) < (l0_1.length : Int) := of_decide_eq_true (by first | (with_reducible assumption) | assumption)
                  obtain ⟨ad745, A745_2, c745_2, e745, hx745_0, hx745_1, hx745_2, hl745_2, hi745_2⟩ := at_T90 HR0_1.out (rd t740 x10_1) p745 q745
                  (try rw [← Nbq12.out] at hx745_0)
                  (try rw [← Nbq12.out] at hx745_1)
                  obtain rfl : ad744 = ad745 := (by injection e745)
                  replace hx745_0 := (HB.out.cell (World.block_lt_of_cell? w _ hx745_0)).trans hx745_0
                  replace hx745_1 := (HB.out.cell (World.block_lt_of_cell? w _ hx745_1)).trans hx745_1
                  replace hx745_2 := (HB.out.cell (World.block_lt_of_cell? w _ hx745_2)).trans hx745_2
                  have HR745_2 := Aside0.mk hi745_2
                  have HC745_2 := Aside0.mk hl745_2
                  clear hi745_2 hl745_2
                  replace p745 := eq_true p745
                  replace q745 := eq_true q745
                  have ea_ := Option.some.inj (hx744_2.symm.trans hx745_2)
                  injection ea_ with ea_ en_ ec_
                  subst ea_
                  subst ec_
                  clear en_
                  go_wp2
                  go_loopg [29] k1 (fun kq v29 w' => ∃ (x29_2 : Int), v29 = .int .i64 x29_2 ∧ Aside0 (impl_Tight.l1 kq t740 (t740.length : Int) x10_1 ((rd_T90 l0_1 (rd t740 x10_1)).f1.f1) (((rd_T90 l0_1 (rd t740 x10_1)).f1.f1).length : Int) x29_2 a0_0 l0_1 = some r) ∧ Aside0 (kq ≤ k1) ∧ Aside0 (Kd.R (Kd.int .i64) 3 w' w.heap.size (fun _ => True) (.slice (some ad743) t740.length co6) t740) ∧ Aside0 (w'.heap[gb739]? = some (.cells #[.int .i64 a0_0, (.slice (some ad744) l0_1.length c0_1)] 49 (0, 0))) ∧ Aside0 (Below w.heap.size w w'))
                  case atStart => exact ⟨(0), (by first | rfl | (simp; done) | (simp [*]; done)), H', ⟨Nat.le_refl _⟩, ⟨by (with_reducible repeat (first | apply Kd.R_alloc | apply Kd.R_drewN | apply Kd.R_drew)); exact HO_8.out⟩, ⟨by (with_reducible repeat (first | refine blk_drewN ?_ _ | refine blk_drew ?_ | refine blk_alloc ?_ _)); exact BK739.out⟩, ⟨by repeat (first | (with_reducible first | exact HB.out | apply below_alloc | apply pw_below_drewN | apply below_drew1 | refine below_set ?_ GE739.out) | exact HB.out)⟩⟩
                  case round =>
                    clear H'
                    try clear c1
                    try clear q1
                    try clear p2
                    try clear c4
                    try clear p6
                    try clear c7
                    try clear c7b0
                    try clear p7
                    try clear q7
                    try clear hx7
                    try clear c8
                    try clear c8b0
                    try clear c9
                    try clear c9b0
                    try clear c10
                    try clear c10b0
                    try clear c11
                    try clear c11b0
                    try clear q12
                    try clear c13
                    try clear hcz14_0
                    try clear hcz14_1
                    try clear hcz15_0
                    try clear hcz15_1
                    try clear hcz4_0
                    try clear hcz4_1
                    try clear hfz14_0
                    try clear hfz14_1
                    try clear hfz15_0
                    try clear hfz15_1
                    try clear hfz4_0
                    try clear hfz4_1
                    try clear hx743_0
                    try clear hx744_0
                    try clear hx744_1
                    try clear hx744_2
                    try clear hx745_0
                    try clear hx745_1
                    try clear hx745_2
                    try clear p2
                    try clear p743
                    try clear p744
                    try clear p745
                    try clear q743
                    try clear q744
                    try clear q745
                    obtain ⟨x29_2, rfl, HA, HK2, HO_8, BK739, HB⟩ := hrel
                    cases gk with
                    | zero => exact absurd HA.out (by simp [impl_Tight.l1])
                    | succ k2 =>
                      have H := HA.out
                      clear HA
                      simp only [impl_Tight.l1] at H
                      by_cases c16 : x29_2 < (((rd_T90 l0_1 (rd t740 x10_1)).f1.f1).length : Int)
                      · rw [if_pos c16] at H
                        have c16b0 : decide (x29_2 < (((rd_T90 l0_1 (rd t740 x10_1)).f1.f1).length : Int)) = true := decide_eq_true c16
                        clear c16
                        by_cases c17 : 0 ≤ x29_2
                        · rw [if_pos c17] at H
                          have c17b0 : decide (0 ≤ x29_2) = true := decide_eq_true c17
                          clear c17
                          by_cases c18 : x29_2 < (((rd_T90 l0_1 (rd t740 x10_1)).f1.f1).length : Int)
                          · rw [if_pos c18] at H
                            have c18b0 : decide (x29_2 < (((rd_T90 l0_1 (rd t740 x10_1)).f1.f1).length : Int)) = true := decide_eq_true c18
                            clear c18
                            replace H := Option.bind_eq_some_iff.mp H
                            obtain ⟨⟨t748, t749⟩, A190, H⟩ := H
                            replace H : ((impl_BoundOf.f k2 t748 t749).bind fun bt752 => (if (!(((rd_T103 ((rd_T90 l0_1 (rd t740 x10_1)).f1.f1) x29_2).f1.f0) == bt752.1) || (!(((rd_T103 ((rd_T90 l0_1 (rd t740 x10_1)).f1.f1) x29_2).f1.f1) == bt752.2.1) || (!(((rd_T103 ((rd_T90 l0_1 (rd t740 x10_1)).f1.f1) x29_2).f1.f2) == bt752.2.2.1) || (!(((rd_T103 ((rd_T90 l0_1 (rd t740 x10_1)).f1.f1) x29_2).f1.f3) == bt752.2.2.2))))) = true then (some false) else (impl_Tight.l1 k2 t740 (t740.length : Int) x10_1 ((rd_T90 l0_1 (rd t740 x10_1)).f1.f1) (((rd_T90 l0_1 (rd t740 x10_1)).f1.f1).length : Int) (wrap64 (x29_2 + 1)) a0_0 l0_1))) = some r := H
                            have A19 := Aside0.mk A190
                            clear A190
                            replace H := Option.bind_eq_some_iff.mp H
                            obtain ⟨⟨t752, t753, t754, t755⟩, A200, H⟩ := H
                            replace H : (if (!(((rd_T103 ((rd_T90 l0_1 (rd t740 x10_1)).f1.f1) x29_2).f1.f0) == t752) || (!(((rd_T103 ((rd_T90 l0_1 (rd t740 x10_1)).f1.f1) x29_2).f1.f1) == t753) || (!(((rd_T103 ((rd_T90 l0_1 (rd t740 x10_1)).f1.f1) x29_2).f1.f2) == t754) || (!(((rd_T103 ((rd_T90 l0_1 (rd t740 x10_1)).f1.f1) x29_2).f1.f3) == t755))))) = true then (some false) else (impl_Tight.l1 k2 t740 (t740.length : Int) x10_1 ((rd_T90 l0_1 (rd t740 x10_1)).f1.f1) (((rd_T90 l0_1 (rd t740 x10_1)).f1.f1).length : Int) (wrap64 (x29_2 + 1)) a0_0 l0_1)) = some r := H
                            have A20 := Aside0.mk A200
                            clear A200
                            by_cases c21 : (!(((rd_T103 ((rd_T90 l0_1 (rd t740 x10_1)).f1.f1) x29_2).f1.f0) == t752) || (!(((rd_T103 ((rd_T90 l0_1 (rd t740 x10_1)).f1.f1) x29_2).f1.f1) == t753) || (!(((rd_T103 ((rd_T90 l0_1 (rd t740 x10_1)).f1.f1) x29_2).f1.f2) == t754) || (!(((rd_T103 ((rd_T90 l0_1 (rd t740 x10_1)).f1.f1) x29_2).f1.f3) == t755))))) = true
                            · rw [if_pos c21] at H
                              have c21b0 : (!(((rd_T103 ((rd_T90 l0_1 (rd t740 x10_1)).f1.f1) x29_2).f1.f0) == t752) || (!(((rd_T103 ((rd_T90 l0_1 (rd t740 x10_1)).f1.f1) x29_2).f1.f1) == t753) || (!(((rd_T103 ((rd_T90 l0_1 (rd t740 x10_1)).f1.f1) x29_2).f1.f2) == t754) || (!(((rd_T103 ((rd_T90 l0_1 (rd t740 x10_1)).f1.f1) x29_2).f1.f3) == t755))))) = true := c21
                              clear c21
                              obtain rfl := Option.some.inj H
                              have p746 : 0 ≤ (x29_2 : Int) := of_decide_eq_true (by first | (with_reducible assumption) | assumption)
                              have q746 : x29_2 < (((rd_T90 l0_1 (rd t740 x10_1)).f1.f1).length : Int) := of_decide_eq_true (by first | (with_reducible assumption) | assumption)
                              obtain ⟨ad746, e746, hx746_0, hx746_1, hx746_2, hx746_3, hx746_4⟩ := at_T103 HR745_2.out x29_2 p746 q746
                              cases e746
                              replace hx746_0 := (HB.out.cell (World.block_lt_of_cell? w _ hx746_0)).trans hx746_0
                              replace hx746_1 := (HB.out.cell (World.block_lt_of_cell? w _ hx746_1)).trans hx746_1
                              replace hx746_2 := (HB.out.cell (World.block_lt_of_cell? w _ hx746_2)).trans hx746_2
                              replace hx746_3 := (HB.out.cell (World.block_lt_of_cell? w _ hx746_3)).trans hx746_3
                              replace hx746_4 := (HB.out.cell (World.block_lt_of_cell? w _ hx746_4)).trans hx746_4
                              replace p746 := eq_true p746
                              replace q746 := eq_true q746
                              try go_wp2_with (first | ((with_reducible refine gate_dst (N := 6) rfl ?_); refine box_event ?hg (N := 6) ?hd (cs := #[.int .i64 0, .int .i64 0, .int .i64 0, .int .i64 0, .int .i64 0]) (t := 103) ?hr ?_; (case hd => rfl); (case hg => rfl); (case hr => first | (go_simp; done) | (go_simp; rfl)); intro gb747 hg w22 hbox hb; have n0_ := Aside0.mk (Kd.R_below (by (with_reducible repeat (first | apply Kd.R_alloc | apply Kd.R_drewN | apply Kd.R_drew)); exact HO_8.out) hb); have n1_ := Aside0.mk (blk_below (g := gb739) (o := .cells #[.int .i64 a0_0, .slice (some ad744) l0_1.length c0_1] 49 (0, 0)) (by (with_reducible repeat (first | refine blk_drewN ?_ _ | refine blk_drew ?_ | refine blk_alloc ?_ _)); exact BK739.out) hb); have n2_ := Aside0.mk (below_step (by repeat (first | (with_reducible first | exact HB.out | apply below_alloc | apply pw_below_drewN | apply below_drew1 | refine below_set ?_ GE739.out) | exact HB.out)) hb); have n3_ := Aside0.mk (hbox); have n4_ := Aside0.mk ((by rw [hg]; exact (below_size (by repeat (first | (with_reducible first | exact HB.out | apply below_alloc | apply pw_below_drewN | apply below_drew1 | refine below_set ?_ GE739.out) | exact HB.out))) : w.heap.size ≤ gb747)); have n5_ := Aside0.mk ((by rw [hg]; exact (below_size (by repeat (first | (with_reducible first | exact HB.out | apply below_alloc | apply pw_below_drewN | apply below_drew1 | refine below_set ?_ GE739.out) | exact HB.out))) : w.heap.size ≤ gb747)); have n6_ := Aside0.mk ((by rw [hg]; exact Nat.ne_of_lt (blk_lt (g := gb739) (o := .cells #[.int .i64 a0_0, .slice (some ad744) l0_1.length c0_1] 49 (0, 0)) (by (with_reducible repeat (first | refine blk_drewN ?_ _ | refine blk_drew ?_ | refine blk_alloc ?_ _)); exact BK739.out)) : gb739 ≠ gb747)); have n7_ := Aside0.mk ((by rw [hg]; exact Nat.ne_of_gt (blk_lt (g := gb739) (o := .cells #[.int .i64 a0_0, .slice (some ad744) l0_1.length c0_1] 49 (0, 0)) (by (with_reducible repeat (first | refine blk_drewN ?_ _ | refine blk_drew ?_ | refine blk_alloc ?_ _)); exact BK739.out)) : gb747 ≠ gb739)); clear HO_8; clear BK739; clear HB; have HO_8 := n0_; have BK739 := n1_; have HB := n2_; have BK747 := n3_; have GW747 := n4_; have GE747 := n5_; have NB739_747 := n6_; have NB747_739 := n7_; clear n0_ n1_ n2_ n3_ n4_ n5_ n6_ n7_; clear hb hbox hg; have hnb23 := NB747_739.out; have hnc23 := NB739_747.out; have hcz24_0 : w22.cell? ⟨gb747, 0, none⟩ = some (.int .i64 0) := (blk_cell BK747.out 0).trans rfl; have hcz24_1 : w22.cell? ⟨gb747, 1, none⟩ = some (.int .i64 0) := (blk_cell BK747.out 1).trans rfl; have hcz24_2 : w22.cell? ⟨gb747, 2, none⟩ = some (.int .i64 0) := (blk_cell BK747.out 2).trans rfl; have hcz24_3 : w22.cell? ⟨gb747, 3, none⟩ = some (.int .i64 0) := (blk_cell BK747.out 3).trans rfl; have hcz24_4 : w22.cell? ⟨gb747, 4, none⟩ = some (.int .i64 0) := (blk_cell BK747.out 4).trans rfl; have hfz24_0 := blk_frozen BK747.out 0; have hfz24_1 := blk_frozen BK747.out 1; have hfz24_2 := blk_frozen BK747.out 2; have hfz24_3 := blk_frozen BK747.out 3; have hfz24_4 := blk_frozen BK747.out 4))
                              have n0_ : Aside0 (Kd.R (Kd.int .i64) 3 (((((w22.setCell ⟨gb747, 0, none⟩ (.int .i64 ((rd_T103 ((rd_T90 l0_1 (rd t740 x10_1)).f1.f1) x29_2).f0))).setCell ⟨gb747, 1, none⟩ (.int .i64 ((rd_T103 ((rd_T90 l0_1 (rd t740 x10_1)).f1.f1) x29_2).f1.f0))).setCell ⟨gb747, 2, none⟩ (.int .i64 ((rd_T103 ((rd_T90 l0_1 (rd t740 x10_1)).f1.f1) x29_2).f1.f1))).setCell ⟨gb747, 3, none⟩ (.int .i64 ((rd_T103 ((rd_T90 l0_1 (rd t740 x10_1)).f1.f1) x29_2).f1.f2))).setCell ⟨gb747, 4, none⟩ (.int .i64 ((rd_T103 ((rd_T90 l0_1 (rd t740 x10_1)).f1.f1) x29_2).f1.f3))) w.heap.size (fun _ => True) (.slice (some ad743) t740.length co6) t740) := ⟨by (with_reducible repeat (first | apply Kd.R_alloc | apply Kd.R_drewN | apply Kd.R_drew)); exact Kd.R_mono (Kd.R_far (p := ⟨gb747, 4, none⟩) (Kd.R_far (p := ⟨gb747, 3, none⟩) (Kd.R_far (p := ⟨gb747, 2, none⟩) (Kd.R_far (p := ⟨gb747, 1, none⟩) (Kd.R_far (p := ⟨gb747, 0, none⟩) (Kd.R_types HO_8.out BK747.out (by decide)) (fun _ hk => hk.2) (.int .i64 ((rd_T103 ((rd_T90 l0_1 (rd t740 x10_1)).f1.f1) x29_2).f0))) (fun _ hk => hk.2) (.int .i64 ((rd_T103 ((rd_T90 l0_1 (rd t740 x10_1)).f1.f1) x29_2).f1.f0))) (fun _ hk => hk.2) (.int .i64 ((rd_T103 ((rd_T90 l0_1 (rd t740 x10_1)).f1.f1) x29_2).f1.f1))) (fun _ hk => hk.2) (.int .i64 ((rd_T103 ((rd_T90 l0_1 (rd t740 x10_1)).f1.f1) x29_2).f1.f2))) (fun _ hk => hk.2) (.int .i64 ((rd_T103 ((rd_T90 l0_1 (rd t740 x10_1)).f1.f1) x29_2).f1.f3))) (fun _ hk => trivial)⟩
                              have n1_ : Aside0 ((((((w22.setCell ⟨gb747, 0, none⟩ (.int .i64 ((rd_T103 ((rd_T90 l0_1 (rd t740 x10_1)).f1.f1) x29_2).f0))).setCell ⟨gb747, 1, none⟩ (.int .i64 ((rd_T103 ((rd_T90 l0_1 (rd t740 x10_1)).f1.f1) x29_2).f1.f0))).setCell ⟨gb747, 2, none⟩ (.int .i64 ((rd_T103 ((rd_T90 l0_1 (rd t740 x10_1)).f1.f1) x29_2).f1.f1))).setCell ⟨gb747, 3, none⟩ (.int .i64 ((rd_T103 ((rd_T90 l0_1 (rd t740 x10_1)).f1.f1) x29_2).f1.f2))).setCell ⟨gb747, 4, none⟩ (.int .i64 ((rd_T103 ((rd_T90 l0_1 (rd t740 x10_1)).f1.f1) x29_2).f1.f3))).heap[gb739]? = some (.cells #[.int .i64 a0_0, .slice (some ad744) l0_1.length c0_1] 49 (0, 0))) := ⟨by (with_reducible repeat (first | refine blk_drewN ?_ _ | refine blk_drew ?_ | refine blk_alloc ?_ _)); refine blk_far ?_ NB739_747.out _; (with_reducible repeat (first | refine blk_drewN ?_ _ | refine blk_drew ?_ | refine blk_alloc ?_ _)); refine blk_far ?_ NB739_747.out _; (with_reducible repeat (first | refine blk_drewN ?_ _ | refine blk_drew ?_ | refine blk_alloc ?_ _)); refine blk_far ?_ NB739_747.out _; (with_reducible repeat (first | refine blk_drewN ?_ _ | refine blk_drew ?_ | refine blk_alloc ?_ _)); refine blk_far ?_ NB739_747.out _; (with_reducible repeat (first | refine blk_drewN ?_ _ | refine blk_drew ?_ | refine blk_alloc ?_ _)); refine blk_far ?_ NB739_747.out _; (with_reducible repeat (first | refine blk_drewN ?_ _ | refine blk_drew ?_ | refine blk_alloc ?_ _)); exact BK739.out⟩
                              have n2_ : Aside0 ((((((w22.setCell ⟨gb747, 0, none⟩ (.int .i64 ((rd_T103 ((rd_T90 l0_1 (rd t740 x10_1)).f1.f1) x29_2).f0))).setCell ⟨gb747, 1, none⟩ (.int .i64 ((rd_T103 ((rd_T90 l0_1 (rd t740 x10_1)).f1.f1) x29_2).f1.f0))).setCell ⟨gb747, 2, none⟩ (.int .i64 ((rd_T103 ((rd_T90 l0_1 (rd t740 x10_1)).f1.f1) x29_2).f1.f1))).setCell ⟨gb747, 3, none⟩ (.int .i64 ((rd_T103 ((rd_T90 l0_1 (rd t740 x10_1)).f1.f1) x29_2).f1.f2))).setCell ⟨gb747, 4, none⟩ (.int .i64 ((rd_T103 ((rd_T90 l0_1 (rd t740 x10_1)).f1.f1) x29_2).f1.f3))).heap[gb747]? = some (.cells #[.int .i64 ((rd_T103 ((rd_T90 l0_1 (rd t740 x10_1)).f1.f1) x29_2).f0), .int .i64 ((rd_T103 ((rd_T90 l0_1 (rd t740 x10_1)).f1.f1) x29_2).f1.f0), .int .i64 ((rd_T103 ((rd_T90 l0_1 (rd t740 x10_1)).f1.f1) x29_2).f1.f1), .int .i64 ((rd_T103 ((rd_T90 l0_1 (rd t740 x10_1)).f1.f1) x29_2).f1.f2), .int .i64 ((rd_T103 ((rd_T90 l0_1 (rd t740 x10_1)).f1.f1) x29_2).f1.f3)] 103 (0, 0))) := ⟨by (with_reducible repeat (first | refine blk_drewN ?_ _ | refine blk_drew ?_ | refine blk_alloc ?_ _)); refine blk_put (cs := #[.int .i64 ((rd_T103 ((rd_T90 l0_1 (rd t740 x10_1)).f1.f1) x29_2).f0), .int .i64 ((rd_T103 ((rd_T90 l0_1 (rd t740 x10_1)).f1.f1) x29_2).f1.f0), .int .i64 ((rd_T103 ((rd_T90 l0_1 (rd t740 x10_1)).f1.f1) x29_2).f1.f1), .int .i64 ((rd_T103 ((rd_T90 l0_1 (rd t740 x10_1)).f1.f1) x29_2).f1.f2), .int .i64 0]) ?_ 4 _ rfl; (with_reducible repeat (first | refine blk_drewN ?_ _ | refine blk_drew ?_ | refine blk_alloc ?_ _)); refine blk_put (cs := #[.int .i64 ((rd_T103 ((rd_T90 l0_1 (rd t740 x10_1)).f1.f1) x29_2).f0), .int .i64 ((rd_T103 ((rd_T90 l0_1 (rd t740 x10_1)).f1.f1) x29_2).f1.f0), .int .i64 ((rd_T103 ((rd_T90 l0_1 (rd t740 x10_1)).f1.f1) x29_2).f1.f1), .int .i64 0, .int .i64 0]) ?_ 3 _ rfl; (with_reducible repeat (first | refine blk_drewN ?_ _ | refine blk_drew ?_ | refine blk_alloc ?_ _)); refine blk_put (cs := #[.int .i64 ((rd_T103 ((rd_T90 l0_1 (rd t740 x10_1)).f1.f1) x29_2).f0), .int .i64 ((rd_T103 ((rd_T90 l0_1 (rd t740 x10_1)).f1.f1) x29_2).f1.f0), .int .i64 0, .int .i64 0, .int .i64 0]) ?_ 2 _ rfl; (with_reducible repeat (first | refine blk_drewN ?_ _ | refine blk_drew ?_ | refine blk_alloc ?_ _)); refine blk_put (cs := #[.int .i64 ((rd_T103 ((rd_T90 l0_1 (rd t740 x10_1)).f1.f1) x29_2).f0), .int .i64 0, .int .i64 0, .int .i64 0, .int .i64 0]) ?_ 1 _ rfl; (with_reducible repeat (first | refine blk_drewN ?_ _ | refine blk_drew ?_ | refine blk_alloc ?_ _)); refine blk_put (cs := #[.int .i64 0, .int .i64 0, .int .i64 0, .int .i64 0, .int .i64 0]) ?_ 0 _ rfl; (with_reducible repeat (first | refine blk_drewN ?_ _ | refine blk_drew ?_ | refine blk_alloc ?_ _)); exact BK747.out⟩
                              have n3_ : Aside0 (Below w.heap.size w (((((w22.setCell ⟨gb747, 0, none⟩ (.int .i64 ((rd_T103 ((rd_T90 l0_1 (rd t740 x10_1)).f1.f1) x29_2).f0))).setCell ⟨gb747, 1, none⟩ (.int .i64 ((rd_T103 ((rd_T90 l0_1 (rd t740 x10_1)).f1.f1) x29_2).f1.f0))).setCell ⟨gb747, 2, none⟩ (.int .i64 ((rd_T103 ((rd_T90 l0_1 (rd t740 x10_1)).f1.f1) x29_2).f1.f1))).setCell ⟨gb747, 3, none⟩ (.int .i64 ((rd_T103 ((rd_T90 l0_1 (rd t740 x10_1)).f1.f1) x29_2).f1.f2))).setCell ⟨gb747, 4, none⟩ (.int .i64 ((rd_T103 ((rd_T90 l0_1 (rd t740 x10_1)).f1.f1) x29_2).f1.f3)))) := ⟨by repeat (first | (with_reducible first | exact HB.out | apply below_alloc | apply pw_below_drewN | apply below_drew1 | refine below_set ?_ GE739.out | refine below_set ?_ GE747.out) | exact HB.out)⟩
                              (try clear HO_8)
                              (try clear BK739)
                              (try clear BK747)
                              (try clear HB)
                              generalize (((((w22.setCell ⟨gb747, 0, none⟩ (.int .i64 ((rd_T103 ((rd_T90 l0_1 (rd t740 x10_1)).f1.f1) x29_2).f0))).setCell ⟨gb747, 1, none⟩ (.int .i64 ((rd_T103 ((rd_T90 l0_1 (rd t740 x10_1)).f1.f1) x29_2).f1.f0))).setCell ⟨gb747, 2, none⟩ (.int .i64 ((rd_T103 ((rd_T90 l0_1 (rd t740 x10_1)).f1.f1) x29_2).f1.f1))).setCell ⟨gb747, 3, none⟩ (.int .i64 ((rd_T103 ((rd_T90 l0_1 (rd t740 x10_1)).f1.f1) x29_2).f1.f2))).setCell ⟨gb747, 4, none⟩ (.int .i64 ((rd_T103 ((rd_T90 l0_1 (rd t740 x10_1)).f1.f1) x29_2).f1.f3))) = w25 at n0_ n1_ n2_ n3_ ⊢
                              have HO_8 := n0_
                              have BK739 := n1_
                              have BK747 := n2_
                              have HB := n3_
                              clear n0_ n1_ n2_ n3_
                              have n0_ := Aside0.mk (Kd.R_drew HO_8.out)
                              have n1_ := Aside0.mk (blk_drew BK739.out)
                              have n2_ := Aside0.mk (blk_drew BK747.out)
                              have n3_ := Aside0.mk (below_drew1 HB.out)
                              clear HO_8
                              clear BK739
                              clear BK747
                              clear HB
                              have HO_8 := n0_
                              have BK739 := n1_
                              have BK747 := n2_
                              have HB := n3_
                              clear n0_ n1_ n2_ n3_
                              refine start_ (n := 8) (S := fun w' => w'.cell? ⟨gb747, 0, none⟩ = some (.int .i64 ((rd_T103 ((rd_T90 l0_1 (rd t740 x10_1)).f1.f1) x29_2).f0)) ∧ w'.cell? ⟨gb747, 1, none⟩ = some (.int .i64 ((rd_T103 ((rd_T90 l0_1 (rd t740 x10_1)).f1.f1) x29_2).f1.f0)) ∧ w'.cell? ⟨gb747, 2, none⟩ = some (.int .i64 ((rd_T103 ((rd_T90 l0_1 (rd t740 x10_1)).f1.f1) x29_2).f1.f1)) ∧ w'.cell? ⟨gb747, 3, none⟩ = some (.int .i64 ((rd_T103 ((rd_T90 l0_1 (rd t740 x10_1)).f1.f1) x29_2).f1.f2)) ∧ w'.cell? ⟨gb747, 4, none⟩ = some (.int .i64 ((rd_T103 ((rd_T90 l0_1 (rd t740 x10_1)).f1.f1) x29_2).f1.f3)) ∧ w'.cell? ⟨gb739, 0, none⟩ = some (.int .i64 a0_0) ∧ w'.cell? ⟨gb739, 1, none⟩ = some (.slice (some ad744) l0_1.length c0_1)) (ds := []) #[false, false, false, false, false, false, false, false] (by kernel_rfl) rfl rfl ⟨(blk_cell BK747.out 0).trans rfl, (blk_cell BK747.out 1).trans rfl, (blk_cell BK747.out 2).trans rfl, (blk_cell BK747.out 3).trans rfl, (blk_cell BK747.out 4).trans rfl, (blk_cell BK739.out 0).trans rfl, (blk_cell BK739.out 1).trans rfl⟩ (fun hHeld => ?_); refine with_tabW impl_Tight.tab8 impl_Tight.bits8 (fun HT_ HW_ => ?_)
                              generalize w25.drew = w26 at HO_8 BK739 BK747 HB hHeld ⊢
                              refine pure_ (i := 0) (N := some 33) (v := ?_) (a' := ?_) #[true, false, false, false, false, false, false, false] rfl rfl (any_of HT_.out (by kernel_rfl)) (fun _ _ _ h => h) (Or.inl ⟨by rfl, ?_⟩) ?_ ?_
                              rotate_left
                              · intro w'
                                go_simp
                                with_reducible rfl
                              rotate_left
                              · simp only [Act.put, List.setIfInBounds_toArray, List.set_cons_zero, List.set_cons_succ, i64_w, i32_w]
                                rfl
                              refine pure_ (i := 3) (N := some 36) (v := ?_) (a' := ?_) #[true, false, false, true, false, false, false, false] rfl rfl (any_of HT_.out (by kernel_rfl)) (fun _ _ _ h => h) (Or.inl ⟨by rfl, ?_⟩) ?_ ?_
                              rotate_left
                              · intro w'
                                go_simp
                                with_reducible rfl
                              rotate_left
                              · simp only [Act.put, List.setIfInBounds_toArray, List.set_cons_zero, List.set_cons_succ, i64_w, i32_w]
                                rfl
                              refine take_ (i := 1) (N := some 34) (v := ?_) (a' := ?_) #[true, true, false, true, false, false, false, false] rfl rfl (take_ofW HT_.out HW_.out (by kernel_rfl)) (fun _ _ _ h => h) (Or.inl ⟨by rfl, ?_⟩) hHeld ?_ ?_
                              rotate_left
                              · rintro w' ⟨s0, s1, s2, s3, s4, s5, s6⟩
                                go_simp
                                with_reducible rfl
                              rotate_left
                              · simp only [Act.put, List.setIfInBounds_toArray, List.set_cons_zero, List.set_cons_succ, i64_w, i32_w]
                                rfl
                              refine take_ (i := 2) (N := some 35) (v := ?_) (a' := ?_) #[true, true, true, true, false, false, false, false] rfl rfl (take_ofW HT_.out HW_.out (by kernel_rfl)) (fun _ _ _ h => h) (Or.inl ⟨by rfl, ?_⟩) hHeld ?_ ?_
                              rotate_left
                              · rintro w' ⟨s0, s1, s2, s3, s4, s5, s6⟩
                                go_simp
                                with_reducible rfl
                              rotate_left
                              · simp only [Act.put, List.setIfInBounds_toArray, List.set_cons_zero, List.set_cons_succ, i64_w, i32_w]
                                rfl
                              refine take_ (i := 4) (N := some 37) (v := ?_) (a' := ?_) #[true, true, true, true, true, false, false, false] rfl rfl (take_ofW HT_.out HW_.out (by kernel_rfl)) (fun _ _ _ h => h) (Or.inl ⟨by rfl, ?_⟩) hHeld ?_ ?_
                              rotate_left
                              · rintro w' ⟨s0, s1, s2, s3, s4, s5, s6⟩
                                go_simp
                                with_reducible rfl
                              rotate_left
                              · simp only [Act.put, List.setIfInBounds_toArray, List.set_cons_zero, List.set_cons_succ, i64_w, i32_w]
                                rfl
                              refine one_ (i := 5) (N := some 38) #[true, true, true, true, true, true, false, false] rfl rfl (one_of HT_.out (by kernel_rfl)) (by decide) (fun K hK => ?_)
                              refine goes_ Try.func96 (by kernel_rfl) rfl #[.agg #[.int .i64 a0_0, .slice (some ad744) l0_1.length c0_1], .int .i64 ((rd_T103 ((rd_T90 l0_1 (rd t740 x10_1)).f1.f1) x29_2).f0)] (by rfl) rfl rfl (by (try simp only [List.map_toArray, List.map_cons, List.map_nil]); first | done | rfl | (simp only [List.length_drop, List.length_take]; rfl)) ?_
                              with_reducible refine (impl_NodeAt.calls a0_0 _ _ l0_1 ((rd_T103 ((rd_T90 l0_1 (rd t740 x10_1)).f1.f1) x29_2).f0) t748 t749 _ ?side1 ?side2 A19.out).mono ?_
                              (case side1 => repeat (first | exact (Kd.C_below HR0_1.out HB.out) | (with_reducible refine Kd.C_alloc ?_ _) | (with_reducible refine Kd.C_drewN ?_ _) | (with_reducible refine Kd.C_drew ?_)))
                              (case side2 => exact HC0_1.out)
                              rintro e w27 ⟨v750, rfl, ho0, hb⟩
                              refine ⟨_, rfl, ?_⟩
                              have n0_ := Aside0.mk (Kd.R_below (by (with_reducible repeat (first | apply Kd.R_alloc | apply Kd.R_drewN | apply Kd.R_drew)); exact HO_8.out) hb)
                              have n1_ := Aside0.mk (Kd.R_lower (Kd.R_newB ho0 (g := gb747) (o := .cells #[.int .i64 ((rd_T103 ((rd_T90 l0_1 (rd t740 x10_1)).f1.f1) x29_2).f0), .int .i64 ((rd_T103 ((rd_T90 l0_1 (rd t740 x10_1)).f1.f1) x29_2).f1.f0), .int .i64 ((rd_T103 ((rd_T90 l0_1 (rd t740 x10_1)).f1.f1) x29_2).f1.f1), .int .i64 ((rd_T103 ((rd_T90 l0_1 (rd t740 x10_1)).f1.f1) x29_2).f1.f2), .int .i64 ((rd_T103 ((rd_T90 l0_1 (rd t740 x10_1)).f1.f1) x29_2).f1.f3)] 103 (0, 0)) (by (with_reducible repeat (first | refine blk_drewN ?_ _ | refine blk_drew ?_ | refine blk_alloc ?_ _)); exact BK747.out)) (below_size (by repeat (first | (with_reducible first | exact HB.out | apply below_alloc | apply pw_below_drewN | apply below_drew1 | refine below_set ?_ GE739.out | refine below_set ?_ GE747.out) | exact HB.out))))
                              have n2_ := Aside0.mk (blk_below (g := gb739) (o := .cells #[.int .i64 a0_0, .slice (some ad744) l0_1.length c0_1] 49 (0, 0)) (by (with_reducible repeat (first | refine blk_drewN ?_ _ | refine blk_drew ?_ | refine blk_alloc ?_ _)); exact BK739.out) hb)
                              have n3_ := Aside0.mk (blk_below (g := gb747) (o := .cells #[.int .i64 ((rd_T103 ((rd_T90 l0_1 (rd t740 x10_1)).f1.f1) x29_2).f0), .int .i64 ((rd_T103 ((rd_T90 l0_1 (rd t740 x10_1)).f1.f1) x29_2).f1.f0), .int .i64 ((rd_T103 ((rd_T90 l0_1 (rd t740 x10_1)).f1.f1) x29_2).f1.f1), .int .i64 ((rd_T103 ((rd_T90 l0_1 (rd t740 x10_1)).f1.f1) x29_2).f1.f2), .int .i64 ((rd_T103 ((rd_T90 l0_1 (rd t740 x10_1)).f1.f1) x29_2).f1.f3)] 103 (0, 0)) (by (with_reducible repeat (first | refine blk_drewN ?_ _ | refine blk_drew ?_ | refine blk_alloc ?_ _)); exact BK747.out) hb)
                              have n4_ := Aside0.mk (below_step (by repeat (first | (with_reducible first | exact HB.out | apply below_alloc | apply pw_below_drewN | apply below_drew1 | refine below_set ?_ GE739.out | refine below_set ?_ GE747.out) | exact HB.out)) hb)
                              clear HO_8
                              clear BK739
                              clear BK747
                              clear HB
                              have HO_8 := n0_
                              have HO751 := n1_
                              have BK739 := n2_
                              have BK747 := n3_
                              have HB := n4_
                              clear n0_ n1_ n2_ n3_ n4_
                              (try clear hb)
                              (try clear hb2)
                              (try clear hk)
                              (try clear hi)
                              (try clear ho0)
                              obtain ⟨Ao28, co28, eo28⟩ := Kd.R_slice HO751.out
                              (first | subst eo28 | (injection eo28 with f1_ f2_ f3_; have f4_ := f1_.symm; have f5_ := f3_.symm; clear f1_ f2_ f3_; subst f4_; subst f5_))
                              refine hK.out _ _ ⟨(blk_cell BK747.out 0).trans rfl, (blk_cell BK747.out 1).trans rfl, (blk_cell BK747.out 2).trans rfl, (blk_cell BK747.out 3).trans rfl, (blk_cell BK747.out 4).trans rfl, (blk_cell BK739.out 0).trans rfl, (blk_cell BK739.out 1).trans rfl⟩ (fun hHeld => ?_)
                              clear hK K
                              refine norm_ (a' := ?_) ?_ ?_
                              rotate_left
                              · show Act.put _ (some 38) _ = _
                                simp only [Act.put, List.setIfInBounds_toArray, List.set_cons_zero, List.set_cons_succ, i64_w, i32_w]
                                rfl
                              refine one_ (i := 6) (N := some 39) #[true, true, true, true, true, true, true, false] rfl rfl (one_of HT_.out (by kernel_rfl)) (by decide) (fun K hK => ?_)
                              refine goes_ Try.func95 (by kernel_rfl) rfl #[.agg #[.bool t748, .slice Ao28 t749.length co28]] (by rfl) rfl rfl (by (try simp only [List.map_toArray, List.map_cons, List.map_nil]); first | done | rfl | (simp only [List.length_drop, List.length_take]; rfl)) ?_
                              with_reducible refine (impl_BoundOf.calls k2 t748 _ _ t749 t752 t753 t754 t755 _ ?side1 ?side2 A20.out).mono ?_
                              (case side1 => repeat (first | exact (Kd.R_reads' HO751.out).2.2 | (with_reducible refine Kd.C_alloc ?_ _) | (with_reducible refine Kd.C_drewN ?_ _) | (with_reducible refine Kd.C_drew ?_)))
                              (case side2 => exact (Kd.R_reads' HO751.out).2.1)
                              rintro e w29 ⟨rfl, hb⟩
                              refine ⟨_, rfl, ?_⟩
                              have n0_ := Aside0.mk (Kd.R_below (by (with_reducible repeat (first | apply Kd.R_alloc | apply Kd.R_drewN | apply Kd.R_drew)); exact HO_8.out) hb)
                              have n1_ := Aside0.mk (Kd.R_below (by (with_reducible repeat (first | apply Kd.R_alloc | apply Kd.R_drewN | apply Kd.R_drew)); exact HO751.out) hb)
                              have n2_ := Aside0.mk (blk_below (g := gb739) (o := .cells #[.int .i64 a0_0, .slice (some ad744) l0_1.length c0_1] 49 (0, 0)) (by (with_reducible repeat (first | refine blk_drewN ?_ _ | refine blk_drew ?_ | refine blk_alloc ?_ _)); exact BK739.out) hb)
                              have n3_ := Aside0.mk (blk_below (g := gb747) (o := .cells #[.int .i64 ((rd_T103 ((rd_T90 l0_1 (rd t740 x10_1)).f1.f1) x29_2).f0), .int .i64 ((rd_T103 ((rd_T90 l0_1 (rd t740 x10_1)).f1.f1) x29_2).f1.f0), .int .i64 ((rd_T103 ((rd_T90 l0_1 (rd t740 x10_1)).f1.f1) x29_2).f1.f1), .int .i64 ((rd_T103 ((rd_T90 l0_1 (rd t740 x10_1)).f1.f1) x29_2).f1.f2), .int .i64 ((rd_T103 ((rd_T90 l0_1 (rd t740 x10_1)).f1.f1) x29_2).f1.f3)] 103 (0, 0)) (by (with_reducible repeat (first | refine blk_drewN ?_ _ | refine blk_drew ?_ | refine blk_alloc ?_ _)); exact BK747.out) hb)
                              have n4_ := Aside0.mk (below_step (by repeat (first | (with_reducible first | exact HB.out | apply below_alloc | apply pw_below_drewN | apply below_drew1 | refine below_set ?_ GE739.out | refine below_set ?_ GE747.out) | exact HB.out)) hb)
                              clear HO_8
                              clear HO751
                              clear BK739
                              clear BK747
                              clear HB
                              have HO_8 := n0_
                              have HO751 := n1_
                              have BK739 := n2_
                              have BK747 := n3_
                              have HB := n4_
                              clear n0_ n1_ n2_ n3_ n4_
                              (try clear hb)
                              (try clear hb2)
                              (try clear hk)
                              (try clear hi)
                              refine hK.out _ _ ⟨(blk_cell BK747.out 0).trans rfl, (blk_cell BK747.out 1).trans rfl, (blk_cell BK747.out 2).trans rfl, (blk_cell BK747.out 3).trans rfl, (blk_cell BK747.out 4).trans rfl, (blk_cell BK739.out 0).trans rfl, (blk_cell BK739.out 1).trans rfl⟩ (fun hHeld => ?_)
                              clear hK K
                              refine norm_ (a' := ?_) ?_ ?_
                              rotate_left
                              · show Act.put _ (some 39) _ = _
                                simp only [Act.put, List.setIfInBounds_toArray, List.set_cons_zero, List.set_cons_succ, i64_w, i32_w]
                                rfl
                              refine pure_ (i := 7) (N := some 40) (v := ?_) (a' := ?_) #[true, true, true, true, true, true, true, true] rfl rfl (any_of HT_.out (by kernel_rfl)) (fun _ _ _ h => h) (Or.inl ⟨by rfl, ?_⟩) ?_ ?_
                              rotate_left
                              · intro w'
                                go_simp
                                with_reducible rfl
                              rotate_left
                              · simp only [Act.put, List.setIfInBounds_toArray, List.set_cons_zero, List.set_cons_succ, i64_w, i32_w]
                                rfl
                              refine done_ (done_of HT_.out (by kernel_rfl)) ?_
                              try go_wp2
                              go_ret
                              exact ⟨by first | rfl | (simp [errW_none, errW_some] <;> rfl) | (simp [*, errW_none, errW_some] <;> rfl), by repeat (first | (with_reducible first | exact HB.out | apply below_alloc | apply pw_below_drewN | apply below_drew1 | refine below_set ?_ GE739.out | refine below_set ?_ GE747.out) | exact HB.out)⟩
                            · rw [if_neg c21] at H
                              have c21b0 : (!(((rd_T103 ((rd_T90 l0_1 (rd t740 x10_1)).f1.f1) x29_2).f1.f0) == t752) || (!(((rd_T103 ((rd_T90 l0_1 (rd t740 x10_1)).f1.f1) x29_2).f1.f1) == t753) || (!(((rd_T103 ((rd_T90 l0_1 (rd t740 x10_1)).f1.f1) x29_2).f1.f2) == t754) || (!(((rd_T103 ((rd_T90 l0_1 (rd t740 x10_1)).f1.f1) x29_2).f1.f3) == t755))))) = false := by simpa using c21
                              clear c21
                              have H' := Aside0.mk H
                              clear H
                              have p746 : 0 ≤ (x29_2 : Int) := of_decide_eq_true (by first | (with_reducible assumption) | assumption)
                              have q746 : x29_2 < (((rd_T90 l0_1 (rd t740 x10_1)).f1.f1).length : Int) := of_decide_eq_true (by first | (with_reducible assumption) | assumption)
                              obtain ⟨ad746, e746, hx746_0, hx746_1, hx746_2, hx746_3, hx746_4⟩ := at_T103 HR745_2.out x29_2 p746 q746
                              cases e746
                              replace hx746_0 := (HB.out.cell (World.block_lt_of_cell? w _ hx746_0)).trans hx746_0
                              replace hx746_1 := (HB.out.cell (World.block_lt_of_cell? w _ hx746_1)).trans hx746_1
                              replace hx746_2 := (HB.out.cell (World.block_lt_of_cell? w _ hx746_2)).trans hx746_2
                              replace hx746_3 := (HB.out.cell (World.block_lt_of_cell? w _ hx746_3)).trans hx746_3
                              replace hx746_4 := (HB.out.cell (World.block_lt_of_cell? w _ hx746_4)).trans hx746_4
                              replace p746 := eq_true p746
                              replace q746 := eq_true q746
                              try go_wp2_with (first | ((with_reducible refine gate_dst (N := 6) rfl ?_); refine box_event ?hg (N := 6) ?hd (cs := #[.int .i64 0, .int .i64 0, .int .i64 0, .int .i64 0, .int .i64 0]) (t := 103) ?hr ?_; (case hd => rfl); (case hg => rfl); (case hr => first | (go_simp; done) | (go_simp; rfl)); intro gb747 hg w30 hbox hb; have n0_ := Aside0.mk (Kd.R_below (by (with_reducible repeat (first | apply Kd.R_alloc | apply Kd.R_drewN | apply Kd.R_drew)); exact HO_8.out) hb); have n1_ := Aside0.mk (blk_below (g := gb739) (o := .cells #[.int .i64 a0_0, .slice (some ad744) l0_1.length c0_1] 49 (0, 0)) (by (with_reducible repeat (first | refine blk_drewN ?_ _ | refine blk_drew ?_ | refine blk_alloc ?_ _)); exact BK739.out) hb); have n2_ := Aside0.mk (below_step (by repeat (first | (with_reducible first | exact HB.out | apply below_alloc | apply pw_below_drewN | apply below_drew1 | refine below_set ?_ GE739.out) | exact HB.out)) hb); have n3_ := Aside0.mk (hbox); have n4_ := Aside0.mk ((by rw [hg]; exact (below_size (by repeat (first | (with_reducible first | exact HB.out | apply below_alloc | apply pw_below_drewN | apply below_drew1 | refine below_set ?_ GE739.out) | exact HB.out))) : w.heap.size ≤ gb747)); have n5_ := Aside0.mk ((by rw [hg]; exact (below_size (by repeat (first | (with_reducible first | exact HB.out | apply below_alloc | apply pw_below_drewN | apply below_drew1 | refine below_set ?_ GE739.out) | exact HB.out))) : w.heap.size ≤ gb747)); have n6_ := Aside0.mk ((by rw [hg]; exact Nat.ne_of_lt (blk_lt (g := gb739) (o := .cells #[.int .i64 a0_0, .slice (some ad744) l0_1.length c0_1] 49 (0, 0)) (by (with_reducible repeat (first | refine blk_drewN ?_ _ | refine blk_drew ?_ | refine blk_alloc ?_ _)); exact BK739.out)) : gb739 ≠ gb747)); have n7_ := Aside0.mk ((by rw [hg]; exact Nat.ne_of_gt (blk_lt (g := gb739) (o := .cells #[.int .i64 a0_0, .slice (some ad744) l0_1.length c0_1] 49 (0, 0)) (by (with_reducible repeat (first | refine blk_drewN ?_ _ | refine blk_drew ?_ | refine blk_alloc ?_ _)); exact BK739.out)) : gb747 ≠ gb739)); clear HO_8; clear BK739; clear HB; have HO_8 := n0_; have BK739 := n1_; have HB := n2_; have BK747 := n3_; have GW747 := n4_; have GE747 := n5_; have NB739_747 := n6_; have NB747_739 := n7_; clear n0_ n1_ n2_ n3_ n4_ n5_ n6_ n7_; clear hb hbox hg; have hnb31 := NB747_739.out; have hnc31 := NB739_747.out; have hcz32_0 : w30.cell? ⟨gb747, 0, none⟩ = some (.int .i64 0) := (blk_cell BK747.out 0).trans rfl; have hcz32_1 : w30.cell? ⟨gb747, 1, none⟩ = some (.int .i64 0) := (blk_cell BK747.out 1).trans rfl; have hcz32_2 : w30.cell? ⟨gb747, 2, none⟩ = some (.int .i64 0) := (blk_cell BK747.out 2).trans rfl; have hcz32_3 : w30.cell? ⟨gb747, 3, none⟩ = some (.int .i64 0) := (blk_cell BK747.out 3).trans rfl; have hcz32_4 : w30.cell? ⟨gb747, 4, none⟩ = some (.int .i64 0) := (blk_cell BK747.out 4).trans rfl; have hfz32_0 := blk_frozen BK747.out 0; have hfz32_1 := blk_frozen BK747.out 1; have hfz32_2 := blk_frozen BK747.out 2; have hfz32_3 := blk_frozen BK747.out 3; have hfz32_4 := blk_frozen BK747.out 4))
                              have n0_ : Aside0 (Kd.R (Kd.int .i64) 3 (((((w30.setCell ⟨gb747, 0, none⟩ (.int .i64 ((rd_T103 ((rd_T90 l0_1 (rd t740 x10_1)).f1.f1) x29_2).f0))).setCell ⟨gb747, 1, none⟩ (.int .i64 ((rd_T103 ((rd_T90 l0_1 (rd t740 x10_1)).f1.f1) x29_2).f1.f0))).setCell ⟨gb747, 2, none⟩ (.int .i64 ((rd_T103 ((rd_T90 l0_1 (rd t740 x10_1)).f1.f1) x29_2).f1.f1))).setCell ⟨gb747, 3, none⟩ (.int .i64 ((rd_T103 ((rd_T90 l0_1 (rd t740 x10_1)).f1.f1) x29_2).f1.f2))).setCell ⟨gb747, 4, none⟩ (.int .i64 ((rd_T103 ((rd_T90 l0_1 (rd t740 x10_1)).f1.f1) x29_2).f1.f3))) w.heap.size (fun _ => True) (.slice (some ad743) t740.length co6) t740) := ⟨by (with_reducible repeat (first | apply Kd.R_alloc | apply Kd.R_drewN | apply Kd.R_drew)); exact Kd.R_mono (Kd.R_far (p := ⟨gb747, 4, none⟩) (Kd.R_far (p := ⟨gb747, 3, none⟩) (Kd.R_far (p := ⟨gb747, 2, none⟩) (Kd.R_far (p := ⟨gb747, 1, none⟩) (Kd.R_far (p := ⟨gb747, 0, none⟩) (Kd.R_types HO_8.out BK747.out (by decide)) (fun _ hk => hk.2) (.int .i64 ((rd_T103 ((rd_T90 l0_1 (rd t740 x10_1)).f1.f1) x29_2).f0))) (fun _ hk => hk.2) (.int .i64 ((rd_T103 ((rd_T90 l0_1 (rd t740 x10_1)).f1.f1) x29_2).f1.f0))) (fun _ hk => hk.2) (.int .i64 ((rd_T103 ((rd_T90 l0_1 (rd t740 x10_1)).f1.f1) x29_2).f1.f1))) (fun _ hk => hk.2) (.int .i64 ((rd_T103 ((rd_T90 l0_1 (rd t740 x10_1)).f1.f1) x29_2).f1.f2))) (fun _ hk => hk.2) (.int .i64 ((rd_T103 ((rd_T90 l0_1 (rd t740 x10_1)).f1.f1) x29_2).f1.f3))) (fun _ hk => trivial)⟩
                              have n1_ : Aside0 ((((((w30.setCell ⟨gb747, 0, none⟩ (.int .i64 ((rd_T103 ((rd_T90 l0_1 (rd t740 x10_1)).f1.f1) x29_2).f0))).setCell ⟨gb747, 1, none⟩ (.int .i64 ((rd_T103 ((rd_T90 l0_1 (rd t740 x10_1)).f1.f1) x29_2).f1.f0))).setCell ⟨gb747, 2, none⟩ (.int .i64 ((rd_T103 ((rd_T90 l0_1 (rd t740 x10_1)).f1.f1) x29_2).f1.f1))).setCell ⟨gb747, 3, none⟩ (.int .i64 ((rd_T103 ((rd_T90 l0_1 (rd t740 x10_1)).f1.f1) x29_2).f1.f2))).setCell ⟨gb747, 4, none⟩ (.int .i64 ((rd_T103 ((rd_T90 l0_1 (rd t740 x10_1)).f1.f1) x29_2).f1.f3))).heap[gb739]? = some (.cells #[.int .i64 a0_0, .slice (some ad744) l0_1.length c0_1] 49 (0, 0))) := ⟨by (with_reducible repeat (first | refine blk_drewN ?_ _ | refine blk_drew ?_ | refine blk_alloc ?_ _)); refine blk_far ?_ NB739_747.out _; (with_reducible repeat (first | refine blk_drewN ?_ _ | refine blk_drew ?_ | refine blk_alloc ?_ _)); refine blk_far ?_ NB739_747.out _; (with_reducible repeat (first | refine blk_drewN ?_ _ | refine blk_drew ?_ | refine blk_alloc ?_ _)); refine blk_far ?_ NB739_747.out _; (with_reducible repeat (first | refine blk_drewN ?_ _ | refine blk_drew ?_ | refine blk_alloc ?_ _)); refine blk_far ?_ NB739_747.out _; (with_reducible repeat (first | refine blk_drewN ?_ _ | refine blk_drew ?_ | refine blk_alloc ?_ _)); refine blk_far ?_ NB739_747.out _; (with_reducible repeat (first | refine blk_drewN ?_ _ | refine blk_drew ?_ | refine blk_alloc ?_ _)); exact BK739.out⟩
                              have n2_ : Aside0 ((((((w30.setCell ⟨gb747, 0, none⟩ (.int .i64 ((rd_T103 ((rd_T90 l0_1 (rd t740 x10_1)).f1.f1) x29_2).f0))).setCell ⟨gb747, 1, none⟩ (.int .i64 ((rd_T103 ((rd_T90 l0_1 (rd t740 x10_1)).f1.f1) x29_2).f1.f0))).setCell ⟨gb747, 2, none⟩ (.int .i64 ((rd_T103 ((rd_T90 l0_1 (rd t740 x10_1)).f1.f1) x29_2).f1.f1))).setCell ⟨gb747, 3, none⟩ (.int .i64 ((rd_T103 ((rd_T90 l0_1 (rd t740 x10_1)).f1.f1) x29_2).f1.f2))).setCell ⟨gb747, 4, none⟩ (.int .i64 ((rd_T103 ((rd_T90 l0_1 (rd t740 x10_1)).f1.f1) x29_2).f1.f3))).heap[gb747]? = some (.cells #[.int .i64 ((rd_T103 ((rd_T90 l0_1 (rd t740 x10_1)).f1.f1) x29_2).f0), .int .i64 ((rd_T103 ((rd_T90 l0_1 (rd t740 x10_1)).f1.f1) x29_2).f1.f0), .int .i64 ((rd_T103 ((rd_T90 l0_1 (rd t740 x10_1)).f1.f1) x29_2).f1.f1), .int .i64 ((rd_T103 ((rd_T90 l0_1 (rd t740 x10_1)).f1.f1) x29_2).f1.f2), .int .i64 ((rd_T103 ((rd_T90 l0_1 (rd t740 x10_1)).f1.f1) x29_2).f1.f3)] 103 (0, 0))) := ⟨by (with_reducible repeat (first | refine blk_drewN ?_ _ | refine blk_drew ?_ | refine blk_alloc ?_ _)); refine blk_put (cs := #[.int .i64 ((rd_T103 ((rd_T90 l0_1 (rd t740 x10_1)).f1.f1) x29_2).f0), .int .i64 ((rd_T103 ((rd_T90 l0_1 (rd t740 x10_1)).f1.f1) x29_2).f1.f0), .int .i64 ((rd_T103 ((rd_T90 l0_1 (rd t740 x10_1)).f1.f1) x29_2).f1.f1), .int .i64 ((rd_T103 ((rd_T90 l0_1 (rd t740 x10_1)).f1.f1) x29_2).f1.f2), .int .i64 0]) ?_ 4 _ rfl; (with_reducible repeat (first | refine blk_drewN ?_ _ | refine blk_drew ?_ | refine blk_alloc ?_ _)); refine blk_put (cs := #[.int .i64 ((rd_T103 ((rd_T90 l0_1 (rd t740 x10_1)).f1.f1) x29_2).f0), .int .i64 ((rd_T103 ((rd_T90 l0_1 (rd t740 x10_1)).f1.f1) x29_2).f1.f0), .int .i64 ((rd_T103 ((rd_T90 l0_1 (rd t740 x10_1)).f1.f1) x29_2).f1.f1), .int .i64 0, .int .i64 0]) ?_ 3 _ rfl; (with_reducible repeat (first | refine blk_drewN ?_ _ | refine blk_drew ?_ | refine blk_alloc ?_ _)); refine blk_put (cs := #[.int .i64 ((rd_T103 ((rd_T90 l0_1 (rd t740 x10_1)).f1.f1) x29_2).f0), .int .i64 ((rd_T103 ((rd_T90 l0_1 (rd t740 x10_1)).f1.f1) x29_2).f1.f0), .int .i64 0, .int .i64 0, .int .i64 0]) ?_ 2 _ rfl; (with_reducible repeat (first | refine blk_drewN ?_ _ | refine blk_drew ?_ | refine blk_alloc ?_ _)); refine blk_put (cs := #[.int .i64 ((rd_T103 ((rd_T90 l0_1 (rd t740 x10_1)).f1.f1) x29_2).f0), .int .i64 0, .int .i64 0, .int .i64 0, .int .i64 0]) ?_ 1 _ rfl; (with_reducible repeat (first | refine blk_drewN ?_ _ | refine blk_drew ?_ | refine blk_alloc ?_ _)); refine blk_put (cs := #[.int .i64 0, .int .i64 0, .int .i64 0, .int .i64 0, .int .i64 0]) ?_ 0 _ rfl; (with_reducible repeat (first | refine blk_drewN ?_ _ | refine blk_drew ?_ | refine blk_alloc ?_ _)); exact BK747.out⟩
                              have n3_ : Aside0 (Below w.heap.size w (((((w30.setCell ⟨gb747, 0, none⟩ (.int .i64 ((rd_T103 ((rd_T90 l0_1 (rd t740 x10_1)).f1.f1) x29_2).f0))).setCell ⟨gb747, 1, none⟩ (.int .i64 ((rd_T103 ((rd_T90 l0_1 (rd t740 x10_1)).f1.f1) x29_2).f1.f0))).setCell ⟨gb747, 2, none⟩ (.int .i64 ((rd_T103 ((rd_T90 l0_1 (rd t740 x10_1)).f1.f1) x29_2).f1.f1))).setCell ⟨gb747, 3, none⟩ (.int .i64 ((rd_T103 ((rd_T90 l0_1 (rd t740 x10_1)).f1.f1) x29_2).f1.f2))).setCell ⟨gb747, 4, none⟩ (.int .i64 ((rd_T103 ((rd_T90 l0_1 (rd t740 x10_1)).f1.f1) x29_2).f1.f3)))) := ⟨by repeat (first | (with_reducible first | exact HB.out | apply below_alloc | apply pw_below_drewN | apply below_drew1 | refine below_set ?_ GE739.out | refine below_set ?_ GE747.out) | exact HB.out)⟩
                              (try clear HO_8)
                              (try clear BK739)
                              (try clear BK747)
                              (try clear HB)
                              generalize (((((w30.setCell ⟨gb747, 0, none⟩ (.int .i64 ((rd_T103 ((rd_T90 l0_1 (rd t740 x10_1)).f1.f1) x29_2).f0))).setCell ⟨gb747, 1, none⟩ (.int .i64 ((rd_T103 ((rd_T90 l0_1 (rd t740 x10_1)).f1.f1) x29_2).f1.f0))).setCell ⟨gb747, 2, none⟩ (.int .i64 ((rd_T103 ((rd_T90 l0_1 (rd t740 x10_1)).f1.f1) x29_2).f1.f1))).setCell ⟨gb747, 3, none⟩ (.int .i64 ((rd_T103 ((rd_T90 l0_1 (rd t740 x10_1)).f1.f1) x29_2).f1.f2))).setCell ⟨gb747, 4, none⟩ (.int .i64 ((rd_T103 ((rd_T90 l0_1 (rd t740 x10_1)).f1.f1) x29_2).f1.f3))) = w33 at n0_ n1_ n2_ n3_ ⊢
                              have HO_8 := n0_
                              have BK739 := n1_
                              have BK747 := n2_
                              have HB := n3_
                              clear n0_ n1_ n2_ n3_
                              have n0_ := Aside0.mk (Kd.R_drew HO_8.out)
                              have n1_ := Aside0.mk (blk_drew BK739.out)
                              have n2_ := Aside0.mk (blk_drew BK747.out)
                              have n3_ := Aside0.mk (below_drew1 HB.out)
                              clear HO_8
                              clear BK739
                              clear BK747
                              clear HB
                              have HO_8 := n0_
                              have BK739 := n1_
                              have BK747 := n2_
                              have HB := n3_
                              clear n0_ n1_ n2_ n3_
                              refine start_ (n := 8) (S := fun w' => w'.cell? ⟨gb747, 0, none⟩ = some (.int .i64 ((rd_T103 ((rd_T90 l0_1 (rd t740 x10_1)).f1.f1) x29_2).f0)) ∧ w'.cell? ⟨gb747, 1, none⟩ = some (.int .i64 ((rd_T103 ((rd_T90 l0_1 (rd t740 x10_1)).f1.f1) x29_2).f1.f0)) ∧ w'.cell? ⟨gb747, 2, none⟩ = some (.int .i64 ((rd_T103 ((rd_T90 l0_1 (rd t740 x10_1)).f1.f1) x29_2).f1.f1)) ∧ w'.cell? ⟨gb747, 3, none⟩ = some (.int .i64 ((rd_T103 ((rd_T90 l0_1 (rd t740 x10_1)).f1.f1) x29_2).f1.f2)) ∧ w'.cell? ⟨gb747, 4, none⟩ = some (.int .i64 ((rd_T103 ((rd_T90 l0_1 (rd t740 x10_1)).f1.f1) x29_2).f1.f3)) ∧ w'.cell? ⟨gb739, 0, none⟩ = some (.int .i64 a0_0) ∧ w'.cell? ⟨gb739, 1, none⟩ = some (.slice (some ad744) l0_1.length c0_1)) (ds := []) #[false, false, false, false, false, false, false, false] (by kernel_rfl) rfl rfl ⟨(blk_cell BK747.out 0).trans rfl, (blk_cell BK747.out 1).trans rfl, (blk_cell BK747.out 2).trans rfl, (blk_cell BK747.out 3).trans rfl, (blk_cell BK747.out 4).trans rfl, (blk_cell BK739.out 0).trans rfl, (blk_cell BK739.out 1).trans rfl⟩ (fun hHeld => ?_); refine with_tabW impl_Tight.tab8 impl_Tight.bits8 (fun HT_ HW_ => ?_)
                              generalize w33.drew = w34 at HO_8 BK739 BK747 HB hHeld ⊢
                              refine pure_ (i := 0) (N := some 33) (v := ?_) (a' := ?_) #[true, false, false, false, false, false, false, false] rfl rfl (any_of HT_.out (by kernel_rfl)) (fun _ _ _ h => h) (Or.inl ⟨by rfl, ?_⟩) ?_ ?_
                              rotate_left
                              · intro w'
                                go_simp
                                with_reducible rfl
                              rotate_left
                              · simp only [Act.put, List.setIfInBounds_toArray, List.set_cons_zero, List.set_cons_succ, i64_w, i32_w]
                                rfl
                              refine pure_ (i := 3) (N := some 36) (v := ?_) (a' := ?_) #[true, false, false, true, false, false, false, false] rfl rfl (any_of HT_.out (by kernel_rfl)) (fun _ _ _ h => h) (Or.inl ⟨by rfl, ?_⟩) ?_ ?_
                              rotate_left
                              · intro w'
                                go_simp
                                with_reducible rfl
                              rotate_left
                              · simp only [Act.put, List.setIfInBounds_toArray, List.set_cons_zero, List.set_cons_succ, i64_w, i32_w]
                                rfl
                              refine take_ (i := 1) (N := some 34) (v := ?_) (a' := ?_) #[true, true, false, true, false, false, false, false] rfl rfl (take_ofW HT_.out HW_.out (by kernel_rfl)) (fun _ _ _ h => h) (Or.inl ⟨by rfl, ?_⟩) hHeld ?_ ?_
                              rotate_left
                              · rintro w' ⟨s0, s1, s2, s3, s4, s5, s6⟩
                                go_simp
                                with_reducible rfl
                              rotate_left
                              · simp only [Act.put, List.setIfInBounds_toArray, List.set_cons_zero, List.set_cons_succ, i64_w, i32_w]
                                rfl
                              refine take_ (i := 2) (N := some 35) (v := ?_) (a' := ?_) #[true, true, true, true, false, false, false, false] rfl rfl (take_ofW HT_.out HW_.out (by kernel_rfl)) (fun _ _ _ h => h) (Or.inl ⟨by rfl, ?_⟩) hHeld ?_ ?_
                              rotate_left
                              · rintro w' ⟨s0, s1, s2, s3, s4, s5, s6⟩
                                go_simp
                                with_reducible rfl
                              rotate_left
                              · simp only [Act.put, List.setIfInBounds_toArray, List.set_cons_zero, List.set_cons_succ, i64_w, i32_w]
                                rfl
                              refine take_ (i := 4) (N := some 37) (v := ?_) (a' := ?_) #[true, true, true, true, true, false, false, false] rfl rfl (take_ofW HT_.out HW_.out (by kernel_rfl)) (fun _ _ _ h => h) (Or.inl ⟨by rfl, ?_⟩) hHeld ?_ ?_
                              rotate_left
                              · rintro w' ⟨s0, s1, s2, s3, s4, s5, s6⟩
                                go_simp
                                with_reducible rfl
                              rotate_left
                              · simp only [Act.put, List.setIfInBounds_toArray, List.set_cons_zero, List.set_cons_succ, i64_w, i32_w]
                                rfl
                              refine one_ (i := 5) (N := some 38) #[true, true, true, true, true, true, false, false] rfl rfl (one_of HT_.out (by kernel_rfl)) (by decide) (fun K hK => ?_)
                              refine goes_ Try.func96 (by kernel_rfl) rfl #[.agg #[.int .i64 a0_0, .slice (some ad744) l0_1.length c0_1], .int .i64 ((rd_T103 ((rd_T90 l0_1 (rd t740 x10_1)).f1.f1) x29_2).f0)] (by rfl) rfl rfl (by (try simp only [List.map_toArray, List.map_cons, List.map_nil]); first | done | rfl | (simp only [List.length_drop, List.length_take]; rfl)) ?_
                              with_reducible refine (impl_NodeAt.calls a0_0 _ _ l0_1 ((rd_T103 ((rd_T90 l0_1 (rd t740 x10_1)).f1.f1) x29_2).f0) t748 t749 _ ?side1 ?side2 A19.out).mono ?_
                              (case side1 => repeat (first | exact (Kd.C_below HR0_1.out HB.out) | (with_reducible refine Kd.C_alloc ?_ _) | (with_reducible refine Kd.C_drewN ?_ _) | (with_reducible refine Kd.C_drew ?_)))
                              (case side2 => exact HC0_1.out)
                              rintro e w35 ⟨v750, rfl, ho0, hb⟩
                              refine ⟨_, rfl, ?_⟩
                              have n0_ := Aside0.mk (Kd.R_below (by (with_reducible repeat (first | apply Kd.R_alloc | apply Kd.R_drewN | apply Kd.R_drew)); exact HO_8.out) hb)
                              have n1_ := Aside0.mk (Kd.R_lower (Kd.R_newB ho0 (g := gb747) (o := .cells #[.int .i64 ((rd_T103 ((rd_T90 l0_1 (rd t740 x10_1)).f1.f1) x29_2).f0), .int .i64 ((rd_T103 ((rd_T90 l0_1 (rd t740 x10_1)).f1.f1) x29_2).f1.f0), .int .i64 ((rd_T103 ((rd_T90 l0_1 (rd t740 x10_1)).f1.f1) x29_2).f1.f1), .int .i64 ((rd_T103 ((rd_T90 l0_1 (rd t740 x10_1)).f1.f1) x29_2).f1.f2), .int .i64 ((rd_T103 ((rd_T90 l0_1 (rd t740 x10_1)).f1.f1) x29_2).f1.f3)] 103 (0, 0)) (by (with_reducible repeat (first | refine blk_drewN ?_ _ | refine blk_drew ?_ | refine blk_alloc ?_ _)); exact BK747.out)) (below_size (by repeat (first | (with_reducible first | exact HB.out | apply below_alloc | apply pw_below_drewN | apply below_drew1 | refine below_set ?_ GE739.out | refine below_set ?_ GE747.out) | exact HB.out))))
                              have n2_ := Aside0.mk (blk_below (g := gb739) (o := .cells #[.int .i64 a0_0, .slice (some ad744) l0_1.length c0_1] 49 (0, 0)) (by (with_reducible repeat (first | refine blk_drewN ?_ _ | refine blk_drew ?_ | refine blk_alloc ?_ _)); exact BK739.out) hb)
                              have n3_ := Aside0.mk (blk_below (g := gb747) (o := .cells #[.int .i64 ((rd_T103 ((rd_T90 l0_1 (rd t740 x10_1)).f1.f1) x29_2).f0), .int .i64 ((rd_T103 ((rd_T90 l0_1 (rd t740 x10_1)).f1.f1) x29_2).f1.f0), .int .i64 ((rd_T103 ((rd_T90 l0_1 (rd t740 x10_1)).f1.f1) x29_2).f1.f1), .int .i64 ((rd_T103 ((rd_T90 l0_1 (rd t740 x10_1)).f1.f1) x29_2).f1.f2), .int .i64 ((rd_T103 ((rd_T90 l0_1 (rd t740 x10_1)).f1.f1) x29_2).f1.f3)] 103 (0, 0)) (by (with_reducible repeat (first | refine blk_drewN ?_ _ | refine blk_drew ?_ | refine blk_alloc ?_ _)); exact BK747.out) hb)
                              have n4_ := Aside0.mk (below_step (by repeat (first | (with_reducible first | exact HB.out | apply below_alloc | apply pw_below_drewN | apply below_drew1 | refine below_set ?_ GE739.out | refine below_set ?_ GE747.out) | exact HB.out)) hb)
                              clear HO_8
                              clear BK739
                              clear BK747
                              clear HB
                              have HO_8 := n0_
                              have HO751 := n1_
                              have BK739 := n2_
                              have BK747 := n3_
                              have HB := n4_
                              clear n0_ n1_ n2_ n3_ n4_
                              (try clear hb)
                              (try clear hb2)
                              (try clear hk)
                              (try clear hi)
                              (try clear ho0)
                              obtain ⟨Ao36, co36, eo36⟩ := Kd.R_slice HO751.out
                              (first | subst eo36 | (injection eo36 with f1_ f2_ f3_; have f4_ := f1_.symm; have f5_ := f3_.symm; clear f1_ f2_ f3_; subst f4_; subst f5_))
                              refine hK.out _ _ ⟨(blk_cell BK747.out 0).trans rfl, (blk_cell BK747.out 1).trans rfl, (blk_cell BK747.out 2).trans rfl, (blk_cell BK747.out 3).trans rfl, (blk_cell BK747.out 4).trans rfl, (blk_cell BK739.out 0).trans rfl, (blk_cell BK739.out 1).trans rfl⟩ (fun hHeld => ?_)
                              clear hK K
                              refine norm_ (a' := ?_) ?_ ?_
                              rotate_left
                              · show Act.put _ (some 38) _ = _
                                simp only [Act.put, List.setIfInBounds_toArray, List.set_cons_zero, List.set_cons_succ, i64_w, i32_w]
                                rfl
                              refine one_ (i := 6) (N := some 39) #[true, true, true, true, true, true, true, false] rfl rfl (one_of HT_.out (by kernel_rfl)) (by decide) (fun K hK => ?_)
                              refine goes_ Try.func95 (by kernel_rfl) rfl #[.agg #[.bool t748, .slice Ao36 t749.length co36]] (by rfl) rfl rfl (by (try simp only [List.map_toArray, List.map_cons, List.map_nil]); first | done | rfl | (simp only [List.length_drop, List.length_take]; rfl)) ?_
                              with_reducible refine (impl_BoundOf.calls k2 t748 _ _ t749 t752 t753 t754 t755 _ ?side1 ?side2 A20.out).mono ?_
                              (case side1 => repeat (first | exact (Kd.R_reads' HO751.out).2.2 | (with_reducible refine Kd.C_alloc ?_ _) | (with_reducible refine Kd.C_drewN ?_ _) | (with_reducible refine Kd.C_drew ?_)))
                              (case side2 => exact (Kd.R_reads' HO751.out).2.1)
                              rintro e w37 ⟨rfl, hb⟩
                              refine ⟨_, rfl, ?_⟩
                              have n0_ := Aside0.mk (Kd.R_below (by (with_reducible repeat (first | apply Kd.R_alloc | apply Kd.R_drewN | apply Kd.R_drew)); exact HO_8.out) hb)
                              have n1_ := Aside0.mk (Kd.R_below (by (with_reducible repeat (first | apply Kd.R_alloc | apply Kd.R_drewN | apply Kd.R_drew)); exact HO751.out) hb)
                              have n2_ := Aside0.mk (blk_below (g := gb739) (o := .cells #[.int .i64 a0_0, .slice (some ad744) l0_1.length c0_1] 49 (0, 0)) (by (with_reducible repeat (first | refine blk_drewN ?_ _ | refine blk_drew ?_ | refine blk_alloc ?_ _)); exact BK739.out) hb)
                              have n3_ := Aside0.mk (blk_below (g := gb747) (o := .cells #[.int .i64 ((rd_T103 ((rd_T90 l0_1 (rd t740 x10_1)).f1.f1) x29_2).f0), .int .i64 ((rd_T103 ((rd_T90 l0_1 (rd t740 x10_1)).f1.f1) x29_2).f1.f0), .int .i64 ((rd_T103 ((rd_T90 l0_1 (rd t740 x10_1)).f1.f1) x29_2).f1.f1), .int .i64 ((rd_T103 ((rd_T90 l0_1 (rd t740 x10_1)).f1.f1) x29_2).f1.f2), .int .i64 ((rd_T103 ((rd_T90 l0_1 (rd t740 x10_1)).f1.f1) x29_2).f1.f3)] 103 (0, 0)) (by (with_reducible repeat (first | refine blk_drewN ?_ _ | refine blk_drew ?_ | refine blk_alloc ?_ _)); exact BK747.out) hb)
                              have n4_ := Aside0.mk (below_step (by repeat (first | (with_reducible first | exact HB.out | apply below_alloc | apply pw_below_drewN | apply below_drew1 | refine below_set ?_ GE739.out | refine below_set ?_ GE747.out) | exact HB.out)) hb)
                              clear HO_8
                              clear HO751
                              clear BK739
                              clear BK747
                              clear HB
                              have HO_8 := n0_
                              have HO751 := n1_
                              have BK739 := n2_
                              have BK747 := n3_
                              have HB := n4_
                              clear n0_ n1_ n2_ n3_ n4_
                              (try clear hb)
                              (try clear hb2)
                              (try clear hk)
                              (try clear hi)
                              refine hK.out _ _ ⟨(blk_cell BK747.out 0).trans rfl, (blk_cell BK747.out 1).trans rfl, (blk_cell BK747.out 2).trans rfl, (blk_cell BK747.out 3).trans rfl, (blk_cell BK747.out 4).trans rfl, (blk_cell BK739.out 0).trans rfl, (blk_cell BK739.out 1).trans rfl⟩ (fun hHeld => ?_)
                              clear hK K
                              refine norm_ (a' := ?_) ?_ ?_
                              rotate_left
                              · show Act.put _ (some 39) _ = _
                                simp only [Act.put, List.setIfInBounds_toArray, List.set_cons_zero, List.set_cons_succ, i64_w, i32_w]
                                rfl
                              refine pure_ (i := 7) (N := some 40) (v := ?_) (a' := ?_) #[true, true, true, true, true, true, true, true] rfl rfl (any_of HT_.out (by kernel_rfl)) (fun _ _ _ h => h) (Or.inl ⟨by rfl, ?_⟩) ?_ ?_
                              rotate_left
                              · intro w'
                                go_simp
                                with_reducible rfl
                              rotate_left
                              · simp only [Act.put, List.setIfInBounds_toArray, List.set_cons_zero, List.set_cons_succ, i64_w, i32_w]
                                rfl
                              refine done_ (done_of HT_.out (by kernel_rfl)) ?_
                              try go_wp2
                              go_roundg k2
                              case measure => have := HK1.out; have := HK2.out; omega
                              case rel => exact ⟨(wrap64 (x29_2 + 1)), (by first | rfl | (simp; done) | (simp [*]; done)), H', ⟨by have := HK1.out; have := HK2.out; omega⟩, ⟨by (with_reducible repeat (first | apply Kd.R_alloc | apply Kd.R_drewN | apply Kd.R_drew)); exact HO_8.out⟩, ⟨by (with_reducible repeat (first | refine blk_drewN ?_ _ | refine blk_drew ?_ | refine blk_alloc ?_ _)); exact BK739.out⟩, ⟨by repeat (first | (with_reducible first | exact HB.out | apply below_alloc | apply pw_below_drewN | apply below_drew1 | refine below_set ?_ GE739.out | refine below_set ?_ GE747.out) | exact HB.out)⟩⟩
                          · rw [if_neg c18] at H
                            exact absurd H (by simp)
                        · rw [if_neg c17] at H
                          exact absurd H (by simp)
                      · rw [if_neg c16] at H
                        have c16b0 : decide (x29_2 < (((rd_T90 l0_1 (rd t740 x10_1)).f1.f1).length : Int)) = false := decide_eq_false c16
                        clear c16
                        have H' := Aside0.mk H
                        clear H
                        go_wp2
                        go_roundg k2
                        case measure => have := HK1.out; have := HK2.out; omega
                        case rel => exact ⟨(wrap64 (x10_1 + 1)), (by first | rfl | (simp; done) | (simp [*]; done)), H', ⟨by have := HK1.out; have := HK2.out; omega⟩, ⟨by (with_reducible repeat (first | apply Kd.R_alloc | apply Kd.R_drewN | apply Kd.R_drew)); exact HO_8.out⟩, ⟨by (with_reducible repeat (first | refine blk_drewN ?_ _ | refine blk_drew ?_ | refine blk_alloc ?_ _)); exact BK739.out⟩, ⟨by repeat (first | (with_reducible first | exact HB.out | apply below_alloc | apply pw_below_drewN | apply below_drew1 | refine below_set ?_ GE739.out) | exact HB.out)⟩⟩
              · rw [if_neg c11] at H
                exact absurd H (by simp)
            · rw [if_neg c10] at H
              exact absurd H (by simp)
          · rw [if_neg c9] at H
            exact absurd H (by simp)
        · rw [if_neg c8] at H
          exact absurd H (by simp)
      · rw [if_neg c7] at H
        have c7b0 : decide (x10_1 < (t740.length : Int)) = false := decide_eq_false c7
        clear c7
        obtain rfl := Option.some.inj H
        go_wp2
        go_ret
        exact ⟨by first | rfl | (simp [errW_none, errW_some] <;> rfl) | (simp [*, errW_none, errW_some] <;> rfl), by repeat (first | (with_reducible first | exact HB.out | apply below_alloc | apply pw_below_drewN | apply below_drew1 | refine below_set ?_ GE739.out) | exact HB.out)⟩

end Go.Proofs.Ytngjaajcdbodeaa.All

namespace Go.Proofs.Ytngjaajcdbodeaa.All
open Go.RowKit Go.Proofs.YtngjaajcdbodeaaW.PrintWords Go.Proofs.YtngjaajcdbodeaaW.PrintLast Go.Proofs.YtngjaajcdbodeaaW.PrintMore
attribute [local go_sem] max2_int min2_int max_two min_two max_three min_three max_four min_four   -- for this text's walks alone
set_option linter.unusedVariables false
set_option linter.unusedSimpArgs false

/-! ### laws_FnExactTight: function 8 -/
def laws_FnExactTight.f (k : Nat) (a0_0 : Int) (l0_1 : List (S118)) : Option (Bool) := (laws_szBook.f k a0_0 l0_1 1048576).bind fun t757 => (if t757 < 0 then (some true) else ((laws_toBook.f k a0_0 l0_1).bind fun bt758 => ((spec_Tight.f k bt758.1 bt758.2).bind fun t762 => ((laws_toBook.f k a0_0 l0_1).bind fun bt763 => ((impl_Tight.f k bt763.1 bt763.2).bind fun t768 => (if (t768 != t762) = true then (some false) else ((laws_toBook.f k a0_0 l0_1).bind fun bt769 => ((laws_eqBook.f k bt763.1 bt763.2 bt769.1 bt769.2).bind fun t773 => (if t773 = true then (some true) else (some false))))))))))
theorem laws_FnExactTight.mono : ∀ a0 a1 k, LeO (laws_FnExactTight.f k a0 a1) (laws_FnExactTight.f (k + 1) a0 a1) := by
  intro a0 a1 k
  unfold laws_FnExactTight.f
  repeat' first
      | (with_reducible exact impl_Tight.mono _ _ _)
      | (with_reducible exact laws_eqBook.mono _ _ _ _ _)
      | (with_reducible exact laws_szBook.mono _ _ _ _)
      | (with_reducible exact laws_toBook.mono _ _ _)
      | (with_reducible exact spec_Tight.mono _ _ _)
      | (with_reducible exact LeO.refl _)
      | (with_reducible exact LeO.none _)
      | (with_reducible refine LeO.ite ?_ ?_)
      | (with_reducible refine LeO.bind ?_ (fun _ => ?_))
      | exact impl_Tight.mono _ _ _
      | exact laws_eqBook.mono _ _ _ _ _
      | exact laws_szBook.mono _ _ _ _
      | exact laws_toBook.mono _ _ _
      | exact spec_Tight.mono _ _ _
      | exact LeO.none _
      | refine LeO.ite ?_ ?_
      | refine LeO.bind ?_ (fun _ => ?_)
set_option maxHeartbeats 8000000 in
set_option maxRecDepth 100000 in
theorem laws_FnExactTight.calls (k : Nat) (a0_0 : Int) (A0_1 : Option Addr) (c0_1 : Nat) (l0_1 : List (S118)) (r : Bool) (w : World) (hr0_1 : Kd.C k118 w A0_1 l0_1.length l0_1) (hc0_1 : l0_1.length ≤ c0_1) (h : laws_FnExactTight.f k a0_0 l0_1 = some r) :
    Calls Try.prog 8 #[.agg #[.int .i64 a0_0, .slice A0_1 l0_1.length c0_1]] w fun e w' => e = .returned (.bool r) ∧ Below w.heap.size w w' := by
  have hu41 := Try.underlying41
  have hu49 := Try.underlying49
  have HR0_1 := Aside0.mk hr0_1
  have HC0_1 := Aside0.mk hc0_1
  clear hr0_1 hc0_1
  have HB := Aside0.mk (Below.refl w.heap.size w)
  have H : ((laws_szBook.f k a0_0 l0_1 1048576).bind fun t757 => (if t757 < 0 then (some true) else ((laws_toBook.f k a0_0 l0_1).bind fun bt758 => ((spec_Tight.f k bt758.1 bt758.2).bind fun t762 => ((laws_toBook.f k a0_0 l0_1).bind fun bt763 => ((impl_Tight.f k bt763.1 bt763.2).bind fun t768 => (if (t768 != t762) = true then (some false) else ((laws_toBook.f k a0_0 l0_1).bind fun bt769 => ((laws_eqBook.f k bt763.1 bt763.2 bt769.1 bt769.2).bind fun t773 => (if t773 = true then (some true) else (some false))))))))))) = some r := h
  clear h
  replace H := Option.bind_eq_some_iff.mp H
  obtain ⟨t757, A20, H⟩ := H
  replace H : (if t757 < 0 then (some true) else ((laws_toBook.f k a0_0 l0_1).bind fun bt758 => ((spec_Tight.f k bt758.1 bt758.2).bind fun t762 => ((laws_toBook.f k a0_0 l0_1).bind fun bt763 => ((impl_Tight.f k bt763.1 bt763.2).bind fun t768 => (if (t768 != t762) = true then (some false) else ((laws_toBook.f k a0_0 l0_1).bind fun bt769 => ((laws_eqBook.f k bt763.1 bt763.2 bt769.1 bt769.2).bind fun t773 => (if t773 = true then (some true) else (some false)))))))))) = some r := H
  have A2 := Aside0.mk A20
  clear A20
  by_cases c3 : t757 < 0
  · rw [if_pos c3] at H
    have c3b0 : decide (t757 < 0) = true := decide_eq_true c3
    clear c3
    obtain rfl := Option.some.inj H
    go_enter Try.func8, Try.ntmps8
    go_wp2_with (first | ((with_reducible refine gate_dst (N := 1) rfl ?_); refine box_event ?hg (N := 1) ?hd (cs := #[.int .i64 a0_0, .slice A0_1 l0_1.length c0_1]) (t := 41) ?hr ?_; (case hd => rfl); (case hg => rfl); (case hr => first | (go_simp; done) | (go_simp; rfl)); intro gb756 hg w4 hbox hb; have n0_ := Aside0.mk (below_step (by repeat (first | (with_reducible first | exact HB.out | apply below_alloc | apply pw_below_drewN | apply below_drew1) | exact HB.out)) hb); have n1_ := Aside0.mk (hbox); have n2_ := Aside0.mk ((by rw [hg]; exact (below_size (by repeat (first | (with_reducible first | exact HB.out | apply below_alloc | apply pw_below_drewN | apply below_drew1) | exact HB.out))) : w.heap.size ≤ gb756)); have n3_ := Aside0.mk ((by rw [hg]; exact (below_size (by repeat (first | (with_reducible first | exact HB.out | apply below_alloc | apply pw_below_drewN | apply below_drew1) | exact HB.out))) : w.heap.size ≤ gb756)); clear HB; have HB := n0_; have BK756 := n1_; have GW756 := n2_; have GE756 := n3_; clear n0_ n1_ n2_ n3_; clear hb hbox hg; have hcz5_0 : w4.cell? ⟨gb756, 0, none⟩ = some (.int .i64 a0_0) := (blk_cell BK756.out 0).trans rfl; have hcz5_1 : w4.cell? ⟨gb756, 1, none⟩ = some (.slice A0_1 l0_1.length c0_1) := (blk_cell BK756.out 1).trans rfl; have hfz5_0 := blk_frozen BK756.out 0; have hfz5_1 := blk_frozen BK756.out 1) | ((with_reducible refine gate_callee (f := 23) rfl ?_); refine goesL_ (some 9) rfl rfl Try.func23 (by kernel_rfl) rfl #[.agg #[.int .i64 a0_0, .slice A0_1 l0_1.length c0_1], .int .i64 1048576] rfl (by (try simp only [List.map_toArray, List.map_cons, List.map_nil]); first | done | rfl | (simp only [List.length_drop, List.length_take]; rfl)) ?_; (with_reducible refine (laws_szBook.calls k a0_0 _ _ l0_1 1048576 t757 _ ?side1 ?side2 A2.out).mono ?_); (case side1 => repeat (first | exact (Kd.C_below HR0_1.out HB.out) | (with_reducible refine Kd.C_alloc ?_ _) | (with_reducible refine Kd.C_drewN ?_ _) | (with_reducible refine Kd.C_drew ?_))); (case side2 => exact HC0_1.out); rintro e w6 ⟨rfl, hb⟩; refine ⟨_, rfl, ?_⟩; have n0_ := Aside0.mk (blk_below (g := gb756) (o := .cells #[.int .i64 a0_0, .slice A0_1 l0_1.length c0_1] 41 (0, 0)) (by (with_reducible repeat (first | refine blk_drewN ?_ _ | refine blk_drew ?_ | refine blk_alloc ?_ _)); exact BK756.out) hb); have n1_ := Aside0.mk (below_step (by repeat (first | (with_reducible first | exact HB.out | apply below_alloc | apply pw_below_drewN | apply below_drew1 | refine below_set ?_ GE756.out) | exact HB.out)) hb); clear BK756; clear HB; have BK756 := n0_; have HB := n1_; clear n0_ n1_; (try clear hb); (try clear hb2); (try clear hk); (try clear hi)))
    go_ret
    exact ⟨by first | rfl | (simp [errW_none, errW_some] <;> rfl) | (simp [*, errW_none, errW_some] <;> rfl), by repeat (first | (with_reducible first | exact HB.out | apply below_alloc | apply pw_below_drewN | apply below_drew1 | refine below_set ?_ GE756.out) | exact HB.out)⟩
  · rw [if_neg c3] at H
    have c3b0 : decide (t757 < 0) = false := decide_eq_false c3
    clear c3
    replace H := Option.bind_eq_some_iff.mp H
    obtain ⟨⟨t758, t759⟩, A70, H⟩ := H
    replace H : ((spec_Tight.f k t758 t759).bind fun t762 => ((laws_toBook.f k a0_0 l0_1).bind fun bt763 => ((impl_Tight.f k bt763.1 bt763.2).bind fun t768 => (if (t768 != t762) = true then (some false) else ((laws_toBook.f k a0_0 l0_1).bind fun bt769 => ((laws_eqBook.f k bt763.1 bt763.2 bt769.1 bt769.2).bind fun t773 => (if t773 = true then (some true) else (some false)))))))) = some r := H
    have A7 := Aside0.mk A70
    clear A70
    replace H := Option.bind_eq_some_iff.mp H
    obtain ⟨t762, A80, H⟩ := H
    replace H : ((laws_toBook.f k a0_0 l0_1).bind fun bt763 => ((impl_Tight.f k bt763.1 bt763.2).bind fun t768 => (if (t768 != t762) = true then (some false) else ((laws_toBook.f k a0_0 l0_1).bind fun bt769 => ((laws_eqBook.f k bt763.1 bt763.2 bt769.1 bt769.2).bind fun t773 => (if t773 = true then (some true) else (some false))))))) = some r := H
    have A8 := Aside0.mk A80
    clear A80
    replace H := Option.bind_eq_some_iff.mp H
    obtain ⟨⟨t763, t764⟩, A90, H⟩ := H
    replace H : ((impl_Tight.f k t763 t764).bind fun t768 => (if (t768 != t762) = true then (some false) else ((laws_toBook.f k a0_0 l0_1).bind fun bt769 => ((laws_eqBook.f k t763 t764 bt769.1 bt769.2).bind fun t773 => (if t773 = true then (some true) else (some false)))))) = some r := H
    have A9 := Aside0.mk A90
    clear A90
    replace H := Option.bind_eq_some_iff.mp H
    obtain ⟨t768, A100, H⟩ := H
    replace H : (if (t768 != t762) = true then (some false) else ((laws_toBook.f k a0_0 l0_1).bind fun bt769 => ((laws_eqBook.f k t763 t764 bt769.1 bt769.2).bind fun t773 => (if t773 = true then (some true) else (some false))))) = some r := H
    have A10 := Aside0.mk A100
    clear A100
    by_cases c11 : (t768 != t762) = true
    · rw [if_pos c11] at H
      have c11b0 : (t768 != t762) = true := c11
      (try (have c11b1 : decide (t768 = t762) = false := by simpa using c11))
      (try (have c11b2 : (t768 == t762) = false := by simpa using c11))
      (try (have c11b3 : ¬ (t768 = t762) := by simpa using c11))
      clear c11
      obtain rfl := Option.some.inj H
      go_enter Try.func8, Try.ntmps8
      go_wp2_with (first | ((with_reducible refine gate_dst (N := 1) rfl ?_); refine box_event ?hg (N := 1) ?hd (cs := #[.int .i64 a0_0, .slice A0_1 l0_1.length c0_1]) (t := 41) ?hr ?_; (case hd => rfl); (case hg => rfl); (case hr => first | (go_simp; done) | (go_simp; rfl)); intro gb756 hg w12 hbox hb; have n0_ := Aside0.mk (below_step (by repeat (first | (with_reducible first | exact HB.out | apply below_alloc | apply pw_below_drewN | apply below_drew1) | exact HB.out)) hb); have n1_ := Aside0.mk (hbox); have n2_ := Aside0.mk ((by rw [hg]; exact (below_size (by repeat (first | (with_reducible first | exact HB.out | apply below_alloc | apply pw_below_drewN | apply below_drew1) | exact HB.out))) : w.heap.size ≤ gb756)); have n3_ := Aside0.mk ((by rw [hg]; exact (below_size (by repeat (first | (with_reducible first | exact HB.out | apply below_alloc | apply pw_below_drewN | apply below_drew1) | exact HB.out))) : w.heap.size ≤ gb756)); clear HB; have HB := n0_; have BK756 := n1_; have GW756 := n2_; have GE756 := n3_; clear n0_ n1_ n2_ n3_; clear hb hbox hg; have hcz13_0 : w12.cell? ⟨gb756, 0, none⟩ = some (.int .i64 a0_0) := (blk_cell BK756.out 0).trans rfl; have hcz13_1 : w12.cell? ⟨gb756, 1, none⟩ = some (.slice A0_1 l0_1.length c0_1) := (blk_cell BK756.out 1).trans rfl; have hfz13_0 := blk_frozen BK756.out 0; have hfz13_1 := blk_frozen BK756.out 1) | ((with_reducible refine gate_callee (f := 23) rfl ?_); refine goesL_ (some 9) rfl rfl Try.func23 (by kernel_rfl) rfl #[.agg #[.int .i64 a0_0, .slice A0_1 l0_1.length c0_1], .int .i64 1048576] rfl (by (try simp only [List.map_toArray, List.map_cons, List.map_nil]); first | done | rfl | (simp only [List.length_drop, List.length_take]; rfl)) ?_; (with_reducible refine (laws_szBook.calls k a0_0 _ _ l0_1 1048576 t757 _ ?side1 ?side2 A2.out).mono ?_); (case side1 => repeat (first | exact (Kd.C_below HR0_1.out HB.out) | (with_reducible refine Kd.C_alloc ?_ _) | (with_reducible refine Kd.C_drewN ?_ _) | (with_reducible refine Kd.C_drew ?_))); (case side2 => exact HC0_1.out); rintro e w14 ⟨rfl, hb⟩; refine ⟨_, rfl, ?_⟩; have n0_ := Aside0.mk (blk_below (g := gb756) (o := .cells #[.int .i64 a0_0, .slice A0_1 l0_1.length c0_1] 41 (0, 0)) (by (with_reducible repeat (first | refine blk_drewN ?_ _ | refine blk_drew ?_ | refine blk_alloc ?_ _)); exact BK756.out) hb); have n1_ := Aside0.mk (below_step (by repeat (first | (with_reducible first | exact HB.out | apply below_alloc | apply pw_below_drewN | apply below_drew1 | refine below_set ?_ GE756.out) | exact HB.out)) hb); clear BK756; clear HB; have BK756 := n0_; have HB := n1_; clear n0_ n1_; (try clear hb); (try clear hb2); (try clear hk); (try clear hi); have hcz15_0 : w14.cell? ⟨gb756, 0, none⟩ = some (.int .i64 a0_0) := (blk_cell BK756.out 0).trans rfl; have hcz15_1 : w14.cell? ⟨gb756, 1, none⟩ = some (.slice A0_1 l0_1.length c0_1) := (blk_cell BK756.out 1).trans rfl; have hfz15_0 := blk_frozen BK756.out 0; have hfz15_1 := blk_frozen BK756.out 1) | ((with_reducible refine gate_callee (f := 26) rfl ?_); refine goesL_ (some 13) rfl rfl Try.func26 (by kernel_rfl) rfl #[.agg #[.int .i64 a0_0, .slice A0_1 l0_1.length c0_1]] rfl (by (try simp only [List.map_toArray, List.map_cons, List.map_nil]); first | done | rfl | (simp only [List.length_drop, List.length_take]; rfl)) ?_; (with_reducible refine (laws_toBook.calls k a0_0 _ _ l0_1 t758 t759 _ ?side1 ?side2 A7.out).mono ?_); (case side1 => repeat (first | exact (Kd.C_below HR0_1.out HB.out) | (with_reducible refine Kd.C_alloc ?_ _) | (with_reducible refine Kd.C_drewN ?_ _) | (with_reducible refine Kd.C_drew ?_))); (case side2 => exact HC0_1.out); rintro e w16 ⟨v760, rfl, ho0, hb⟩; refine ⟨_, rfl, ?_⟩; have n0_ := Aside0.mk (Kd.S_lower ho0 (below_size (by repeat (first | (with_reducible first | exact HB.out | apply below_alloc | apply pw_below_drewN | apply below_drew1 | refine below_set ?_ GE756.out) | exact HB.out)))); have n1_ := Aside0.mk (blk_below (g := gb756) (o := .cells #[.int .i64 a0_0, .slice A0_1 l0_1.length c0_1] 41 (0, 0)) (by (with_reducible repeat (first | refine blk_drewN ?_ _ | refine blk_drew ?_ | refine blk_alloc ?_ _)); exact BK756.out) hb); have n2_ := Aside0.mk (below_step (by repeat (first | (with_reducible first | exact HB.out | apply below_alloc | apply pw_below_drewN | apply below_drew1 | refine below_set ?_ GE756.out) | exact HB.out)) hb); clear BK756; clear HB; have HO761 := n0_; have BK756 := n1_; have HB := n2_; clear n0_ n1_ n2_; (try clear hb); (try clear hb2); (try clear hk); (try clear hi); (try clear ho0); obtain ⟨Ao17, co17, eo17⟩ := Kd.S_slice HO761.out; subst eo17) | ((with_reducible refine gate_callee (f := 43) rfl ?_); refine goesL_ (some 14) rfl rfl Try.func43 (by kernel_rfl) rfl #[.agg #[.int .i64 t758, .slice Ao17 t759.length co17]] rfl (by (try simp only [List.map_toArray, List.map_cons, List.map_nil]); first | done | rfl | (simp only [List.length_drop, List.length_take]; rfl)) ?_; (with_reducible refine (spec_Tight.calls k t758 _ _ t759 t762 _ ?side1 ?side2 A8.out).mono ?_); (case side1 => repeat (first | exact (Kd.S_reads' HO761.out).2.2 | (with_reducible refine Kd.C_alloc ?_ _) | (with_reducible refine Kd.C_drewN ?_ _) | (with_reducible refine Kd.C_drew ?_))); (case side2 => exact (Kd.S_reads' HO761.out).2.1); rintro e w18 ⟨rfl, hb⟩; refine ⟨_, rfl, ?_⟩; have n0_ := Aside0.mk (Kd.S_below (by (with_reducible repeat (first | apply Kd.S_alloc | apply Kd.S_drewN | apply Kd.S_drew)); exact HO761.out) hb); have n1_ := Aside0.mk (blk_below (g := gb756) (o := .cells #[.int .i64 a0_0, .slice A0_1 l0_1.length c0_1] 41 (0, 0)) (by (with_reducible repeat (first | refine blk_drewN ?_ _ | refine blk_drew ?_ | refine blk_alloc ?_ _)); exact BK756.out) hb); have n2_ := Aside0.mk (below_step (by repeat (first | (with_reducible first | exact HB.out | apply below_alloc | apply pw_below_drewN | apply below_drew1 | refine below_set ?_ GE756.out) | exact HB.out)) hb); clear HO761; clear BK756; clear HB; have HO761 := n0_; have BK756 := n1_; have HB := n2_; clear n0_ n1_ n2_; (try clear hb); (try clear hb2); (try clear hk); (try clear hi); have hcz19_0 : w18.cell? ⟨gb756, 0, none⟩ = some (.int .i64 a0_0) := (blk_cell BK756.out 0).trans rfl; have hcz19_1 : w18.cell? ⟨gb756, 1, none⟩ = some (.slice A0_1 l0_1.length c0_1) := (blk_cell BK756.out 1).trans rfl; have hfz19_0 := blk_frozen BK756.out 0; have hfz19_1 := blk_frozen BK756.out 1) | ((with_reducible refine gate_callee (f := 26) rfl ?_); refine goesL_ (some 16) rfl rfl Try.func26 (by kernel_rfl) rfl #[.agg #[.int .i64 a0_0, .slice A0_1 l0_1.length c0_1]] rfl (by (try simp only [List.map_toArray, List.map_cons, List.map_nil]); first | done | rfl | (simp only [List.length_drop, List.length_take]; rfl)) ?_; (with_reducible refine (laws_toBook.calls k a0_0 _ _ l0_1 t763 t764 _ ?side1 ?side2 A9.out).mono ?_); (case side1 => repeat (first | exact (Kd.C_below HR0_1.out HB.out) | (with_reducible refine Kd.C_alloc ?_ _) | (with_reducible refine Kd.C_drewN ?_ _) | (with_reducible refine Kd.C_drew ?_))); (case side2 => exact HC0_1.out); rintro e w20 ⟨v765, rfl, ho0, hb⟩; refine ⟨_, rfl, ?_⟩; have n0_ := Aside0.mk (Kd.S_elder' (by (with_reducible repeat (first | apply Kd.S_alloc | apply Kd.S_drewN | apply Kd.S_drew)); exact HO761.out) (Kd.S_base ho0) hb); have n1_ := Aside0.mk (Kd.S_lower (Kd.S_new' ho0 (Kd.S_lt (by (with_reducible repeat (first | apply Kd.S_alloc | apply Kd.S_drewN | apply Kd.S_drew)); exact HO761.out))) (below_size (by repeat (first | (with_reducible first | exact HB.out | apply below_alloc | apply pw_below_drewN | apply below_drew1 | refine below_set ?_ GE756.out) | exact HB.out)))); have n2_ := Aside0.mk (blk_below (g := gb756) (o := .cells #[.int .i64 a0_0, .slice A0_1 l0_1.length c0_1] 41 (0, 0)) (by (with_reducible repeat (first | refine blk_drewN ?_ _ | refine blk_drew ?_ | refine blk_alloc ?_ _)); exact BK756.out) hb); have n3_ := Aside0.mk (below_step (by repeat (first | (with_reducible first | exact HB.out | apply below_alloc | apply pw_below_drewN | apply below_drew1 | refine below_set ?_ GE756.out) | exact HB.out)) hb); clear HO761; clear BK756; clear HB; have HO761 := n0_; have HO766 := n1_; have BK756 := n2_; have HB := n3_; clear n0_ n1_ n2_ n3_; (try clear hb); (try clear hb2); (try clear hk); (try clear hi); (try clear ho0)) | ((with_reducible refine gate_dst (N := 5) rfl ?_); refine box_event ?hg (N := 5) ?hd (cs := #[.int .i64 0, .slice none 0 0]) (t := 49) ?hr ?_; (case hd => rfl); (case hg => rfl); (case hr => first | (go_simp; done) | (go_simp; rfl)); intro gb767 hg w21 hbox hb; have n0_ := Aside0.mk (Kd.S_below (by (with_reducible repeat (first | apply Kd.S_alloc | apply Kd.S_drewN | apply Kd.S_drew)); exact HO761.out) hb); have n1_ := Aside0.mk (Kd.S_below (by (with_reducible repeat (first | apply Kd.S_alloc | apply Kd.S_drewN | apply Kd.S_drew)); exact HO766.out) hb); have n2_ := Aside0.mk (blk_below (g := gb756) (o := .cells #[.int .i64 a0_0, .slice A0_1 l0_1.length c0_1] 41 (0, 0)) (by (with_reducible repeat (first | refine blk_drewN ?_ _ | refine blk_drew ?_ | refine blk_alloc ?_ _)); exact BK756.out) hb); have n3_ := Aside0.mk (below_step (by repeat (first | (with_reducible first | exact HB.out | apply below_alloc | apply pw_below_drewN | apply below_drew1 | refine below_set ?_ GE756.out) | exact HB.out)) hb); have n4_ := Aside0.mk (hbox); have n5_ := Aside0.mk ((by rw [hg]; exact (below_size (by repeat (first | (with_reducible first | exact HB.out | apply below_alloc | apply pw_below_drewN | apply below_drew1 | refine below_set ?_ GE756.out) | exact HB.out))) : w.heap.size ≤ gb767)); have n6_ := Aside0.mk ((by rw [hg]; exact (below_size (by repeat (first | (with_reducible first | exact HB.out | apply below_alloc | apply pw_below_drewN | apply below_drew1 | refine below_set ?_ GE756.out) | exact HB.out))) : w.heap.size ≤ gb767)); have n7_ := Aside0.mk ((by rw [hg]; exact Nat.ne_of_lt (blk_lt (g := gb756) (o := .cells #[.int .i64 a0_0, .slice A0_1 l0_1.length c0_1] 41 (0, 0)) (by (with_reducible repeat (first | refine blk_drewN ?_ _ | refine blk_drew ?_ | refine blk_alloc ?_ _)); exact BK756.out)) : gb756 ≠ gb767)); have n8_ := Aside0.mk ((by rw [hg]; exact Nat.ne_of_gt (blk_lt (g := gb756) (o := .cells #[.int .i64 a0_0, .slice A0_1 l0_1.length c0_1] 41 (0, 0)) (by (with_reducible repeat (first | refine blk_drewN ?_ _ | refine blk_drew ?_ | refine blk_alloc ?_ _)); exact BK756.out)) : gb767 ≠ gb756)); clear HO761; clear HO766; clear BK756; clear HB; have HO761 := n0_; have HO766 := n1_; have BK756 := n2_; have HB := n3_; have BK767 := n4_; have GW767 := n5_; have GE767 := n6_; have NB756_767 := n7_; have NB767_756 := n8_; clear n0_ n1_ n2_ n3_ n4_ n5_ n6_ n7_ n8_; clear hb hbox hg; have hnb22 := NB767_756.out; have hnc22 := NB756_767.out; have hcz23_0 : w21.cell? ⟨gb767, 0, none⟩ = some (.int .i64 0) := (blk_cell BK767.out 0).trans rfl; have hcz23_1 : w21.cell? ⟨gb767, 1, none⟩ = some (.slice none 0 0) := (blk_cell BK767.out 1).trans rfl; have hfz23_0 := blk_frozen BK767.out 0; have hfz23_1 := blk_frozen BK767.out 1; obtain ⟨Ao24, co24, eo24⟩ := Kd.S_slice HO766.out; subst eo24) | ((with_reducible refine gate_callee (f := 44) rfl ?_); refine goesL_ (some 18) rfl rfl Try.func44 (by kernel_rfl) rfl #[.agg #[.int .i64 t763, .slice Ao24 t764.length co24]] rfl (by (try simp only [List.map_toArray, List.map_cons, List.map_nil]); first | done | rfl | (simp only [List.length_drop, List.length_take]; rfl)) ?_; (with_reducible refine (impl_Tight.calls k t763 _ _ t764 t768 _ ?side1 ?side2 A10.out).mono ?_); (case side1 => refine (Kd.S_reads' (e := 90) (base := w.heap.size) (ok := fun k_ => (True ∧ some k_ ≠ (.slice Ao17 t759.length co17 : Value).ownBlock)) (n := t764.length) (c := co24) ?_).2.2; exact (by (with_reducible repeat (first | apply Kd.S_alloc | apply Kd.S_drewN | apply Kd.S_drew)); exact (Kd.S_mono (Kd.S_far (p := ⟨gb767, 1, none⟩) (Kd.S_far (p := ⟨gb767, 0, none⟩) (Kd.S_types HO766.out BK767.out (by decide)) (fun _ hk => hk.2) (.int .i64 t763)) (fun _ hk => hk.2) (.slice Ao24 t764.length co24)) (fun _ h_ => h_.1)))); (case side2 => exact (Kd.S_reads' HO766.out).2.1); rintro e w25 ⟨rfl, hb⟩; refine ⟨_, rfl, ?_⟩; have n0_ := Aside0.mk (Kd.S_below (by (with_reducible repeat (first | apply Kd.S_alloc | apply Kd.S_drewN | apply Kd.S_drew)); exact (Kd.S_mono (Kd.S_far (p := ⟨gb767, 1, none⟩) (Kd.S_far (p := ⟨gb767, 0, none⟩) (Kd.S_types HO761.out BK767.out (by decide)) (fun _ hk => hk.2) (.int .i64 t763)) (fun _ hk => hk.2) (.slice Ao24 t764.length co24)) (fun _ h_ => h_.1))) hb); have n1_ := Aside0.mk (Kd.S_below (by (with_reducible repeat (first | apply Kd.S_alloc | apply Kd.S_drewN | apply Kd.S_drew)); exact (Kd.S_mono (Kd.S_far (p := ⟨gb767, 1, none⟩) (Kd.S_far (p := ⟨gb767, 0, none⟩) (Kd.S_types HO766.out BK767.out (by decide)) (fun _ hk => hk.2) (.int .i64 t763)) (fun _ hk => hk.2) (.slice Ao24 t764.length co24)) (fun _ h_ => h_.1))) hb); have n2_ := Aside0.mk (blk_below (g := gb756) (o := .cells #[.int .i64 a0_0, .slice A0_1 l0_1.length c0_1] 41 (0, 0)) (by (with_reducible repeat (first | refine blk_drewN ?_ _ | refine blk_drew ?_ | refine blk_alloc ?_ _)); refine blk_far ?_ NB756_767.out _; (with_reducible repeat (first | refine blk_drewN ?_ _ | refine blk_drew ?_ | refine blk_alloc ?_ _)); refine blk_far ?_ NB756_767.out _; (with_reducible repeat (first | refine blk_drewN ?_ _ | refine blk_drew ?_ | refine blk_alloc ?_ _)); exact BK756.out) hb); have n3_ := Aside0.mk (blk_below (g := gb767) (o := .cells #[.int .i64 t763, .slice Ao24 t764.length co24] 49 (0, 0)) (by (with_reducible repeat (first | refine blk_drewN ?_ _ | refine blk_drew ?_ | refine blk_alloc ?_ _)); refine blk_put (cs := #[.int .i64 t763, .slice none 0 0]) ?_ 1 _ rfl; (with_reducible repeat (first | refine blk_drewN ?_ _ | refine blk_drew ?_ | refine blk_alloc ?_ _)); refine blk_put (cs := #[.int .i64 0, .slice none 0 0]) ?_ 0 _ rfl; (with_reducible repeat (first | refine blk_drewN ?_ _ | refine blk_drew ?_ | refine blk_alloc ?_ _)); exact BK767.out) hb); have n4_ := Aside0.mk (below_step (by repeat (first | (with_reducible first | exact HB.out | apply below_alloc | apply pw_below_drewN | apply below_drew1 | refine below_set ?_ GE756.out | refine below_set ?_ GE767.out) | exact HB.out)) hb); clear HO761; clear HO766; clear BK756; clear BK767; clear HB; have HO761 := n0_; have HO766 := n1_; have BK756 := n2_; have BK767 := n3_; have HB := n4_; clear n0_ n1_ n2_ n3_ n4_; (try clear hb); (try clear hb2); (try clear hk); (try clear hi)))
      go_ret
      exact ⟨by first | rfl | (simp [errW_none, errW_some] <;> rfl) | (simp [*, errW_none, errW_some] <;> rfl), by repeat (first | (with_reducible first | exact HB.out | apply below_alloc | apply pw_below_drewN | apply below_drew1 | refine below_set ?_ GE756.out | refine below_set ?_ GE767.out) | exact HB.out)⟩
    · rw [if_neg c11] at H
      have c11b0 : (t768 != t762) = false := by simpa using c11
      (try (have c11b1 : decide (t768 = t762) = true := by simpa using c11))
      (try (have c11b2 : (t768 == t762) = true := by simpa using c11))
      clear c11
      replace H := Option.bind_eq_some_iff.mp H
      obtain ⟨⟨t769, t770⟩, A260, H⟩ := H
      replace H : ((laws_eqBook.f k t763 t764 t769 t770).bind fun t773 => (if t773 = true then (some true) else (some false))) = some r := H
      have A26 := Aside0.mk A260
      clear A260
      replace H := Option.bind_eq_some_iff.mp H
      obtain ⟨t773, A270, H⟩ := H
      replace H : (if t773 = true then (some true) else (some false)) = some r := H
      have A27 := Aside0.mk A270
      clear A270
      by_cases c28 : t773 = true
      · subst c28
        have H1 : (some true) = some r := by rw [if_pos rfl] at H; exact H
        clear H
        have H := H1
        clear H1
        obtain rfl := Option.some.inj H
        go_enter Try.func8, Try.ntmps8
        try go_wp2_with (first | ((with_reducible refine gate_dst (N := 1) rfl ?_); refine box_event ?hg (N := 1) ?hd (cs := #[.int .i64 a0_0, .slice A0_1 l0_1.length c0_1]) (t := 41) ?hr ?_; (case hd => rfl); (case hg => rfl); (case hr => first | (go_simp; done) | (go_simp; rfl)); intro gb756 hg w29 hbox hb; have n0_ := Aside0.mk (below_step (by repeat (first | (with_reducible first | exact HB.out | apply below_alloc | apply pw_below_drewN | apply below_drew1) | exact HB.out)) hb); have n1_ := Aside0.mk (hbox); have n2_ := Aside0.mk ((by rw [hg]; exact (below_size (by repeat (first | (with_reducible first | exact HB.out | apply below_alloc | apply pw_below_drewN | apply below_drew1) | exact HB.out))) : w.heap.size ≤ gb756)); have n3_ := Aside0.mk ((by rw [hg]; exact (below_size (by repeat (first | (with_reducible first | exact HB.out | apply below_alloc | apply pw_below_drewN | apply below_drew1) | exact HB.out))) : w.heap.size ≤ gb756)); clear HB; have HB := n0_; have BK756 := n1_; have GW756 := n2_; have GE756 := n3_; clear n0_ n1_ n2_ n3_; clear hb hbox hg; have hcz30_0 : w29.cell? ⟨gb756, 0, none⟩ = some (.int .i64 a0_0) := (blk_cell BK756.out 0).trans rfl; have hcz30_1 : w29.cell? ⟨gb756, 1, none⟩ = some (.slice A0_1 l0_1.length c0_1) := (blk_cell BK756.out 1).trans rfl; have hfz30_0 := blk_frozen BK756.out 0; have hfz30_1 := blk_frozen BK756.out 1) | ((with_reducible refine gate_callee (f := 23) rfl ?_); refine goesL_ (some 9) rfl rfl Try.func23 (by kernel_rfl) rfl #[.agg #[.int .i64 a0_0, .slice A0_1 l0_1.length c0_1], .int .i64 1048576] rfl (by (try simp only [List.map_toArray, List.map_cons, List.map_nil]); first | done | rfl | (simp only [List.length_drop, List.length_take]; rfl)) ?_; (with_reducible refine (laws_szBook.calls k a0_0 _ _ l0_1 1048576 t757 _ ?side1 ?side2 A2.out).mono ?_); (case side1 => repeat (first | exact (Kd.C_below HR0_1.out HB.out) | (with_reducible refine Kd.C_alloc ?_ _) | (with_reducible refine Kd.C_drewN ?_ _) | (with_reducible refine Kd.C_drew ?_))); (case side2 => exact HC0_1.out); rintro e w31 ⟨rfl, hb⟩; refine ⟨_, rfl, ?_⟩; have n0_ := Aside0.mk (blk_below (g := gb756) (o := .cells #[.int .i64 a0_0, .slice A0_1 l0_1.length c0_1] 41 (0, 0)) (by (with_reducible repeat (first | refine blk_drewN ?_ _ | refine blk_drew ?_ | refine blk_alloc ?_ _)); exact BK756.out) hb); have n1_ := Aside0.mk (below_step (by repeat (first | (with_reducible first | exact HB.out | apply below_alloc | apply pw_below_drewN | apply below_drew1 | refine below_set ?_ GE756.out) | exact HB.out)) hb); clear BK756; clear HB; have BK756 := n0_; have HB := n1_; clear n0_ n1_; (try clear hb); (try clear hb2); (try clear hk); (try clear hi); have hcz32_0 : w31.cell? ⟨gb756, 0, none⟩ = some (.int .i64 a0_0) := (blk_cell BK756.out 0).trans rfl; have hcz32_1 : w31.cell? ⟨gb756, 1, none⟩ = some (.slice A0_1 l0_1.length c0_1) := (blk_cell BK756.out 1).trans rfl; have hfz32_0 := blk_frozen BK756.out 0; have hfz32_1 := blk_frozen BK756.out 1) | ((with_reducible refine gate_callee (f := 26) rfl ?_); refine goesL_ (some 13) rfl rfl Try.func26 (by kernel_rfl) rfl #[.agg #[.int .i64 a0_0, .slice A0_1 l0_1.length c0_1]] rfl (by (try simp only [List.map_toArray, List.map_cons, List.map_nil]); first | done | rfl | (simp only [List.length_drop, List.length_take]; rfl)) ?_; (with_reducible refine (laws_toBook.calls k a0_0 _ _ l0_1 t758 t759 _ ?side1 ?side2 A7.out).mono ?_); (case side1 => repeat (first | exact (Kd.C_below HR0_1.out HB.out) | (with_reducible refine Kd.C_alloc ?_ _) | (with_reducible refine Kd.C_drewN ?_ _) | (with_reducible refine Kd.C_drew ?_))); (case side2 => exact HC0_1.out); rintro e w33 ⟨v760, rfl, ho0, hb⟩; refine ⟨_, rfl, ?_⟩; have n0_ := Aside0.mk (Kd.S_lower ho0 (below_size (by repeat (first | (with_reducible first | exact HB.out | apply below_alloc | apply pw_below_drewN | apply below_drew1 | refine below_set ?_ GE756.out) | exact HB.out)))); have n1_ := Aside0.mk (blk_below (g := gb756) (o := .cells #[.int .i64 a0_0, .slice A0_1 l0_1.length c0_1] 41 (0, 0)) (by (with_reducible repeat (first | refine blk_drewN ?_ _ | refine blk_drew ?_ | refine blk_alloc ?_ _)); exact BK756.out) hb); have n2_ := Aside0.mk (below_step (by repeat (first | (with_reducible first | exact HB.out | apply below_alloc | apply pw_below_drewN | apply below_drew1 | refine below_set ?_ GE756.out) | exact HB.out)) hb); clear BK756; clear HB; have HO761 := n0_; have BK756 := n1_; have HB := n2_; clear n0_ n1_ n2_; (try clear hb); (try clear hb2); (try clear hk); (try clear hi); (try clear ho0); obtain ⟨Ao34, co34, eo34⟩ := Kd.S_slice HO761.out; subst eo34) | ((with_reducible refine gate_callee (f := 43) rfl ?_); refine goesL_ (some 14) rfl rfl Try.func43 (by kernel_rfl) rfl #[.agg #[.int .i64 t758, .slice Ao34 t759.length co34]] rfl (by (try simp only [List.map_toArray, List.map_cons, List.map_nil]); first | done | rfl | (simp only [List.length_drop, List.length_take]; rfl)) ?_; (with_reducible refine (spec_Tight.calls k t758 _ _ t759 t762 _ ?side1 ?side2 A8.out).mono ?_); (case side1 => repeat (first | exact (Kd.S_reads' HO761.out).2.2 | (with_reducible refine Kd.C_alloc ?_ _) | (with_reducible refine Kd.C_drewN ?_ _) | (with_reducible refine Kd.C_drew ?_))); (case side2 => exact (Kd.S_reads' HO761.out).2.1); rintro e w35 ⟨rfl, hb⟩; refine ⟨_, rfl, ?_⟩; have n0_ := Aside0.mk (Kd.S_below (by (with_reducible repeat (first | apply Kd.S_alloc | apply Kd.S_drewN | apply Kd.S_drew)); exact HO761.out) hb); have n1_ := Aside0.mk (blk_below (g := gb756) (o := .cells #[.int .i64 a0_0, .slice A0_1 l0_1.length c0_1] 41 (0, 0)) (by (with_reducible repeat (first | refine blk_drewN ?_ _ | refine blk_drew ?_ | refine blk_alloc ?_ _)); exact BK756.out) hb); have n2_ := Aside0.mk (below_step (by repeat (first | (with_reducible first | exact HB.out | apply below_alloc | apply pw_below_drewN | apply below_drew1 | refine below_set ?_ GE756.out) | exact HB.out)) hb); clear HO761; clear BK756; clear HB; have HO761 := n0_; have BK756 := n1_; have HB := n2_; clear n0_ n1_ n2_; (try clear hb); (try clear hb2); (try clear hk); (try clear hi); have hcz36_0 : w35.cell? ⟨gb756, 0, none⟩ = some (.int .i64 a0_0) := (blk_cell BK756.out 0).trans rfl; have hcz36_1 : w35.cell? ⟨gb756, 1, none⟩ = some (.slice A0_1 l0_1.length c0_1) := (blk_cell BK756.out 1).trans rfl; have hfz36_0 := blk_frozen BK756.out 0; have hfz36_1 := blk_frozen BK756.out 1) | ((with_reducible refine gate_callee (f := 26) rfl ?_); refine goesL_ (some 16) rfl rfl Try.func26 (by kernel_rfl) rfl #[.agg #[.int .i64 a0_0, .slice A0_1 l0_1.length c0_1]] rfl (by (try simp only [List.map_toArray, List.map_cons, List.map_nil]); first | done | rfl | (simp only [List.length_drop, List.length_take]; rfl)) ?_; (with_reducible refine (laws_toBook.calls k a0_0 _ _ l0_1 t763 t764 _ ?side1 ?side2 A9.out).mono ?_); (case side1 => repeat (first | exact (Kd.C_below HR0_1.out HB.out) | (with_reducible refine Kd.C_alloc ?_ _) | (with_reducible refine Kd.C_drewN ?_ _) | (with_reducible refine Kd.C_drew ?_))); (case side2 => exact HC0_1.out); rintro e w37 ⟨v765, rfl, ho0, hb⟩; refine ⟨_, rfl, ?_⟩; have n0_ := Aside0.mk (Kd.S_elder' (by (with_reducible repeat (first | apply Kd.S_alloc | apply Kd.S_drewN | apply Kd.S_drew)); exact HO761.out) (Kd.S_base ho0) hb); have n1_ := Aside0.mk (Kd.S_lower (Kd.S_new' ho0 (Kd.S_lt (by (with_reducible repeat (first | apply Kd.S_alloc | apply Kd.S_drewN | apply Kd.S_drew)); exact HO761.out))) (below_size (by repeat (first | (with_reducible first | exact HB.out | apply below_alloc | apply pw_below_drewN | apply below_drew1 | refine below_set ?_ GE756.out) | exact HB.out)))); have n2_ := Aside0.mk (blk_below (g := gb756) (o := .cells #[.int .i64 a0_0, .slice A0_1 l0_1.length c0_1] 41 (0, 0)) (by (with_reducible repeat (first | refine blk_drewN ?_ _ | refine blk_drew ?_ | refine blk_alloc ?_ _)); exact BK756.out) hb); have n3_ := Aside0.mk (below_step (by repeat (first | (with_reducible first | exact HB.out | apply below_alloc | apply pw_below_drewN | apply below_drew1 | refine below_set ?_ GE756.out) | exact HB.out)) hb); clear HO761; clear BK756; clear HB; have HO761 := n0_; have HO766 := n1_; have BK756 := n2_; have HB := n3_; clear n0_ n1_ n2_ n3_; (try clear hb); (try clear hb2); (try clear hk); (try clear hi); (try clear ho0)) | ((with_reducible refine gate_dst (N := 5) rfl ?_); refine box_event ?hg (N := 5) ?hd (cs := #[.int .i64 0, .slice none 0 0]) (t := 49) ?hr ?_; (case hd => rfl); (case hg => rfl); (case hr => first | (go_simp; done) | (go_simp; rfl)); intro gb767 hg w38 hbox hb; have n0_ := Aside0.mk (Kd.S_below (by (with_reducible repeat (first | apply Kd.S_alloc | apply Kd.S_drewN | apply Kd.S_drew)); exact HO761.out) hb); have n1_ := Aside0.mk (Kd.S_below (by (with_reducible repeat (first | apply Kd.S_alloc | apply Kd.S_drewN | apply Kd.S_drew)); exact HO766.out) hb); have n2_ := Aside0.mk (blk_below (g := gb756) (o := .cells #[.int .i64 a0_0, .slice A0_1 l0_1.length c0_1] 41 (0, 0)) (by (with_reducible repeat (first | refine blk_drewN ?_ _ | refine blk_drew ?_ | refine blk_alloc ?_ _)); exact BK756.out) hb); have n3_ := Aside0.mk (below_step (by repeat (first | (with_reducible first | exact HB.out | apply below_alloc | apply pw_below_drewN | apply below_drew1 | refine below_set ?_ GE756.out) | exact HB.out)) hb); have n4_ := Aside0.mk (hbox); have n5_ := Aside0.mk ((by rw [hg]; exact (below_size (by repeat (first | (with_reducible first | exact HB.out | apply below_alloc | apply pw_below_drewN | apply below_drew1 | refine below_set ?_ GE756.out) | exact HB.out))) : w.heap.size ≤ gb767)); have n6_ := Aside0.mk ((by rw [hg]; exact (below_size (by repeat (first | (with_reducible first | exact HB.out | apply below_alloc | apply pw_below_drewN | apply below_drew1 | refine below_set ?_ GE756.out) | exact HB.out))) : w.heap.size ≤ gb767)); have n7_ := Aside0.mk ((by rw [hg]; exact Nat.ne_of_lt (blk_lt (g := gb756) (o := .cells #[.int .i64 a0_0, .slice A0_1 l0_1.length c0_1] 41 (0, 0)) (by (with_reducible repeat (first | refine blk_drewN ?_ _ | refine blk_drew ?_ | refine blk_alloc ?_ _)); exact BK756.out)) : gb756 ≠ gb767)); have n8_ := Aside0.mk ((by rw [hg]; exact Nat.ne_of_gt (blk_lt (g := gb756) (o := .cells #[.int .i64 a0_0, .slice A0_1 l0_1.length c0_1] 41 (0, 0)) (by (with_reducible repeat (first | refine blk_drewN ?_ _ | refine blk_drew ?_ | refine blk_alloc ?_ _)); exact BK756.out)) : gb767 ≠ gb756)); clear HO761; clear HO766; clear BK756; clear HB; have HO761 := n0_; have HO766 := n1_; have BK756 := n2_; have HB := n3_; have BK767 := n4_; have GW767 := n5_; have GE767 := n6_; have NB756_767 := n7_; have NB767_756 := n8_; clear n0_ n1_ n2_ n3_ n4_ n5_ n6_ n7_ n8_; clear hb hbox hg; have hnb39 := NB767_756.out; have hnc39 := NB756_767.out; have hcz40_0 : w38.cell? ⟨gb767, 0, none⟩ = some (.int .i64 0) := (blk_cell BK767.out 0).trans rfl; have hcz40_1 : w38.cell? ⟨gb767, 1, none⟩ = some (.slice none 0 0) := (blk_cell BK767.out 1).trans rfl; have hfz40_0 := blk_frozen BK767.out 0; have hfz40_1 := blk_frozen BK767.out 1; obtain ⟨Ao41, co41, eo41⟩ := Kd.S_slice HO766.out; subst eo41) | ((with_reducible refine gate_callee (f := 44) rfl ?_); refine goesL_ (some 18) rfl rfl Try.func44 (by kernel_rfl) rfl #[.agg #[.int .i64 t763, .slice Ao41 t764.length co41]] rfl (by (try simp only [List.map_toArray, List.map_cons, List.map_nil]); first | done | rfl | (simp only [List.length_drop, List.length_take]; rfl)) ?_; (with_reducible refine (impl_Tight.calls k t763 _ _ t764 t768 _ ?side1 ?side2 A10.out).mono ?_); (case side1 => refine (Kd.S_reads' (e := 90) (base := w.heap.size) (ok := fun k_ => (True ∧ some k_ ≠ (.slice Ao34 t759.length co34 : Value).ownBlock)) (n := t764.length) (c := co41) ?_).2.2; exact (by (with_reducible repeat (first | apply Kd.S_alloc | apply Kd.S_drewN | apply Kd.S_drew)); exact (Kd.S_mono (Kd.S_far (p := ⟨gb767, 1, none⟩) (Kd.S_far (p := ⟨gb767, 0, none⟩) (Kd.S_types HO766.out BK767.out (by decide)) (fun _ hk => hk.2) (.int .i64 t763)) (fun _ hk => hk.2) (.slice Ao41 t764.length co41)) (fun _ h_ => h_.1)))); (case side2 => exact (Kd.S_reads' HO766.out).2.1); rintro e w42 ⟨rfl, hb⟩; refine ⟨_, rfl, ?_⟩; have n0_ := Aside0.mk (Kd.S_below (by (with_reducible repeat (first | apply Kd.S_alloc | apply Kd.S_drewN | apply Kd.S_drew)); exact (Kd.S_mono (Kd.S_far (p := ⟨gb767, 1, none⟩) (Kd.S_far (p := ⟨gb767, 0, none⟩) (Kd.S_types HO761.out BK767.out (by decide)) (fun _ hk => hk.2) (.int .i64 t763)) (fun _ hk => hk.2) (.slice Ao41 t764.length co41)) (fun _ h_ => h_.1))) hb); have n1_ := Aside0.mk (Kd.S_below (by (with_reducible repeat (first | apply Kd.S_alloc | apply Kd.S_drewN | apply Kd.S_drew)); exact (Kd.S_mono (Kd.S_far (p := ⟨gb767, 1, none⟩) (Kd.S_far (p := ⟨gb767, 0, none⟩) (Kd.S_types HO766.out BK767.out (by decide)) (fun _ hk => hk.2) (.int .i64 t763)) (fun _ hk => hk.2) (.slice Ao41 t764.length co41)) (fun _ h_ => h_.1))) hb); have n2_ := Aside0.mk (blk_below (g := gb756) (o := .cells #[.int .i64 a0_0, .slice A0_1 l0_1.length c0_1] 41 (0, 0)) (by (with_reducible repeat (first | refine blk_drewN ?_ _ | refine blk_drew ?_ | refine blk_alloc ?_ _)); refine blk_far ?_ NB756_767.out _; (with_reducible repeat (first | refine blk_drewN ?_ _ | refine blk_drew ?_ | refine blk_alloc ?_ _)); refine blk_far ?_ NB756_767.out _; (with_reducible repeat (first | refine blk_drewN ?_ _ | refine blk_drew ?_ | refine blk_alloc ?_ _)); exact BK756.out) hb); have n3_ := Aside0.mk (blk_below (g := gb767) (o := .cells #[.int .i64 t763, .slice Ao41 t764.length co41] 49 (0, 0)) (by (with_reducible repeat (first | refine blk_drewN ?_ _ | refine blk_drew ?_ | refine blk_alloc ?_ _)); refine blk_put (cs := #[.int .i64 t763, .slice none 0 0]) ?_ 1 _ rfl; (with_reducible repeat (first | refine blk_drewN ?_ _ | refine blk_drew ?_ | refine blk_alloc ?_ _)); refine blk_put (cs := #[.int .i64 0, .slice none 0 0]) ?_ 0 _ rfl; (with_reducible repeat (first | refine blk_drewN ?_ _ | refine blk_drew ?_ | refine blk_alloc ?_ _)); exact BK767.out) hb); have n4_ := Aside0.mk (below_step (by repeat (first | (with_reducible first | exact HB.out | apply below_alloc | apply pw_below_drewN | apply below_drew1 | refine below_set ?_ GE756.out | refine below_set ?_ GE767.out) | exact HB.out)) hb); clear HO761; clear HO766; clear BK756; clear BK767; clear HB; have HO761 := n0_; have HO766 := n1_; have BK756 := n2_; have BK767 := n3_; have HB := n4_; clear n0_ n1_ n2_ n3_ n4_; (try clear hb); (try clear hb2); (try clear hk); (try clear hi)))
        have n0_ := Aside0.mk (Kd.S_drew HO761.out)
        have n1_ := Aside0.mk (Kd.S_drew HO766.out)
        have n2_ := Aside0.mk (blk_drew BK756.out)
        have n3_ := Aside0.mk (blk_drew BK767.out)
        have n4_ := Aside0.mk (below_drew1 HB.out)
        clear HO761
        clear HO766
        clear BK756
        clear BK767
        clear HB
        have HO761 := n0_
        have HO766 := n1_
        have BK756 := n2_
        have BK767 := n3_
        have HB := n4_
        clear n0_ n1_ n2_ n3_ n4_
        refine start_ (n := 5) (S := fun w' => w'.cell? ⟨gb767, 0, none⟩ = some (.int .i64 t763) ∧ w'.cell? ⟨gb767, 1, none⟩ = some (.slice Ao41 t764.length co41) ∧ w'.cell? ⟨gb756, 0, none⟩ = some (.int .i64 a0_0) ∧ w'.cell? ⟨gb756, 1, none⟩ = some (.slice A0_1 l0_1.length c0_1)) (ds := []) #[false, false, false, false, false] (by kernel_rfl) rfl rfl ⟨(blk_cell BK767.out 0).trans rfl, (blk_cell BK767.out 1).trans rfl, (blk_cell BK756.out 0).trans rfl, (blk_cell BK756.out 1).trans rfl⟩ (fun hHeld => ?_)
        generalize w42.drew = w43 at HO761 HO766 BK756 BK767 HB hHeld ⊢
        refine take_ (i := 0) (N := some 22) (v := ?_) (a' := ?_) #[true, false, false, false, false] rfl rfl (by kernel_rfl) (fun _ _ _ h => h) (Or.inl ⟨by rfl, ?_⟩) hHeld ?_ ?_
        rotate_left
        · rintro w' ⟨s0, s1, s2, s3⟩
          go_simp
          with_reducible rfl
        rotate_left
        · simp only [Act.put, List.setIfInBounds_toArray, List.set_cons_zero, List.set_cons_succ, i64_w, i32_w]
          rfl
        refine take_ (i := 1) (N := some 23) (v := ?_) (a' := ?_) #[true, true, false, false, false] rfl rfl (by kernel_rfl) (fun _ _ _ h => h) (Or.inl ⟨by rfl, ?_⟩) hHeld ?_ ?_
        rotate_left
        · rintro w' ⟨s0, s1, s2, s3⟩
          go_simp
          with_reducible rfl
        rotate_left
        · simp only [Act.put, List.setIfInBounds_toArray, List.set_cons_zero, List.set_cons_succ, i64_w, i32_w]
          rfl
        refine one_ (i := 2) (N := some 24) #[true, true, true, false, false] rfl rfl (by kernel_rfl) (by decide) (fun K hK => ?_)
        refine goes_ Try.func26 (by kernel_rfl) rfl #[.agg #[.int .i64 a0_0, .slice A0_1 l0_1.length c0_1]] (by rfl) rfl rfl (by (try simp only [List.map_toArray, List.map_cons, List.map_nil]); first | done | rfl | (simp only [List.length_drop, List.length_take]; rfl)) ?_
        with_reducible refine (laws_toBook.calls k a0_0 _ _ l0_1 t769 t770 _ ?side1 ?side2 A26.out).mono ?_
        (case side1 => repeat (first | exact (Kd.C_below HR0_1.out HB.out) | (with_reducible refine Kd.C_alloc ?_ _) | (with_reducible refine Kd.C_drewN ?_ _) | (with_reducible refine Kd.C_drew ?_)))
        (case side2 => exact HC0_1.out)
        rintro e w44 ⟨v771, rfl, ho0, hb⟩
        refine ⟨_, rfl, ?_⟩
        have n0_ := Aside0.mk (Kd.S_elder' (by (with_reducible repeat (first | apply Kd.S_alloc | apply Kd.S_drewN | apply Kd.S_drew)); exact HO761.out) (Kd.S_base ho0) hb)
        have n1_ := Aside0.mk (Kd.S_elder' (by (with_reducible repeat (first | apply Kd.S_alloc | apply Kd.S_drewN | apply Kd.S_drew)); exact HO766.out) (Kd.S_base ho0) hb)
        have n2_ := Aside0.mk (Kd.S_lower (Kd.S_new' (Kd.S_new' ho0 (Kd.S_lt (by (with_reducible repeat (first | apply Kd.S_alloc | apply Kd.S_drewN | apply Kd.S_drew)); exact HO761.out))) (Kd.S_lt (by (with_reducible repeat (first | apply Kd.S_alloc | apply Kd.S_drewN | apply Kd.S_drew)); exact HO766.out))) (below_size (by repeat (first | (with_reducible first | exact HB.out | apply below_alloc | apply pw_below_drewN | apply below_drew1 | refine below_set ?_ GE756.out | refine below_set ?_ GE767.out) | exact HB.out))))
        have n3_ := Aside0.mk (blk_below (g := gb756) (o := .cells #[.int .i64 a0_0, .slice A0_1 l0_1.length c0_1] 41 (0, 0)) (by (with_reducible repeat (first | refine blk_drewN ?_ _ | refine blk_drew ?_ | refine blk_alloc ?_ _)); exact BK756.out) hb)
        have n4_ := Aside0.mk (blk_below (g := gb767) (o := .cells #[.int .i64 t763, .slice Ao41 t764.length co41] 49 (0, 0)) (by (with_reducible repeat (first | refine blk_drewN ?_ _ | refine blk_drew ?_ | refine blk_alloc ?_ _)); exact BK767.out) hb)
        have n5_ := Aside0.mk (below_step (by repeat (first | (with_reducible first | exact HB.out | apply below_alloc | apply pw_below_drewN | apply below_drew1 | refine below_set ?_ GE756.out | refine below_set ?_ GE767.out) | exact HB.out)) hb)
        clear HO761
        clear HO766
        clear BK756
        clear BK767
        clear HB
        have HO761 := n0_
        have HO766 := n1_
        have HO772 := n2_
        have BK756 := n3_
        have BK767 := n4_
        have HB := n5_
        clear n0_ n1_ n2_ n3_ n4_ n5_
        (try clear hb)
        (try clear hb2)
        (try clear hk)
        (try clear hi)
        (try clear ho0)
        obtain ⟨Ao45, co45, eo45⟩ := Kd.S_slice HO772.out
        (first | subst eo45 | (injection eo45 with f1_ f2_ f3_; have f4_ := f1_.symm; have f5_ := f3_.symm; clear f1_ f2_ f3_; subst f4_; subst f5_))
        refine hK.out _ _ ⟨(blk_cell BK767.out 0).trans rfl, (blk_cell BK767.out 1).trans rfl, (blk_cell BK756.out 0).trans rfl, (blk_cell BK756.out 1).trans rfl⟩ (fun hHeld => ?_)
        clear hK K
        refine norm_ (a' := ?_) ?_ ?_
        rotate_left
        · show Act.put _ (some 24) _ = _
          simp only [Act.put, List.setIfInBounds_toArray, List.set_cons_zero, List.set_cons_succ, i64_w, i32_w]
          rfl
        refine one_ (i := 3) (N := some 25) #[true, true, true, true, false] rfl rfl (by kernel_rfl) (by decide) (fun K hK => ?_)
        refine goes_ Try.func29 (by kernel_rfl) rfl #[.agg #[.int .i64 t763, .slice Ao41 t764.length co41], .agg #[.int .i64 t769, .slice Ao45 t770.length co45]] (by rfl) rfl rfl (by (try simp only [List.map_toArray, List.map_cons, List.map_nil]); first | done | rfl | (simp only [List.length_drop, List.length_take]; rfl)) ?_
        with_reducible refine (laws_eqBook.calls k t763 _ _ t764 t769 _ _ t770 true _ ?side1 ?side2 ?side3 ?side4 A27.out).mono ?_
        (case side1 => repeat (first | exact (Kd.S_reads' HO766.out).2.2 | (with_reducible refine Kd.C_alloc ?_ _) | (with_reducible refine Kd.C_drewN ?_ _) | (with_reducible refine Kd.C_drew ?_)))
        (case side2 => exact (Kd.S_reads' HO766.out).2.1)
        (case side3 => repeat (first | exact (Kd.S_reads' HO772.out).2.2 | (with_reducible refine Kd.C_alloc ?_ _) | (with_reducible refine Kd.C_drewN ?_ _) | (with_reducible refine Kd.C_drew ?_)))
        (case side4 => exact (Kd.S_reads' HO772.out).2.1)
        rintro e w46 ⟨rfl, hb⟩
        refine ⟨_, rfl, ?_⟩
        have n0_ := Aside0.mk (Kd.S_below (by (with_reducible repeat (first | apply Kd.S_alloc | apply Kd.S_drewN | apply Kd.S_drew)); exact HO761.out) hb)
        have n1_ := Aside0.mk (Kd.S_below (by (with_reducible repeat (first | apply Kd.S_alloc | apply Kd.S_drewN | apply Kd.S_drew)); exact HO766.out) hb)
        have n2_ := Aside0.mk (Kd.S_below (by (with_reducible repeat (first | apply Kd.S_alloc | apply Kd.S_drewN | apply Kd.S_drew)); exact HO772.out) hb)
        have n3_ := Aside0.mk (blk_below (g := gb756) (o := .cells #[.int .i64 a0_0, .slice A0_1 l0_1.length c0_1] 41 (0, 0)) (by (with_reducible repeat (first | refine blk_drewN ?_ _ | refine blk_drew ?_ | refine blk_alloc ?_ _)); exact BK756.out) hb)
        have n4_ := Aside0.mk (blk_below (g := gb767) (o := .cells #[.int .i64 t763, .slice Ao41 t764.length co41] 49 (0, 0)) (by (with_reducible repeat (first | refine blk_drewN ?_ _ | refine blk_drew ?_ | refine blk_alloc ?_ _)); exact BK767.out) hb)
        have n5_ := Aside0.mk (below_step (by repeat (first | (with_reducible first | exact HB.out | apply below_alloc | apply pw_below_drewN | apply below_drew1 | refine below_set ?_ GE756.out | refine below_set ?_ GE767.out) | exact HB.out)) hb)
        clear HO761
        clear HO766
        clear HO772
        clear BK756
        clear BK767
        clear HB
        have HO761 := n0_
        have HO766 := n1_
        have HO772 := n2_
        have BK756 := n3_
        have BK767 := n4_
        have HB := n5_
        clear n0_ n1_ n2_ n3_ n4_ n5_
        (try clear hb)
        (try clear hb2)
        (try clear hk)
        (try clear hi)
        refine hK.out _ _ ⟨(blk_cell BK767.out 0).trans rfl, (blk_cell BK767.out 1).trans rfl, (blk_cell BK756.out 0).trans rfl, (blk_cell BK756.out 1).trans rfl⟩ (fun hHeld => ?_)
        clear hK K
        refine norm_ (a' := ?_) ?_ ?_
        rotate_left
        · show Act.put _ (some 25) _ = _
          simp only [Act.put, List.setIfInBounds_toArray, List.set_cons_zero, List.set_cons_succ, i64_w, i32_w]
          rfl
        refine pure_ (i := 4) (N := some 26) (v := ?_) (a' := ?_) #[true, true, true, true, true] rfl rfl (by kernel_rfl) (fun _ _ _ h => h) (Or.inl ⟨by rfl, ?_⟩) ?_ ?_
        rotate_left
        · intro w'
          go_simp
          with_reducible rfl
        rotate_left
        · simp only [Act.put, List.setIfInBounds_toArray, List.set_cons_zero, List.set_cons_succ, i64_w, i32_w]
          rfl
        refine done_ (by kernel_rfl) ?_
        try go_wp2
        go_ret
        exact ⟨by first | rfl | (simp [errW_none, errW_some] <;> rfl) | (simp [*, errW_none, errW_some] <;> rfl), by repeat (first | (with_reducible first | exact HB.out | apply below_alloc | apply pw_below_drewN | apply below_drew1 | refine below_set ?_ GE756.out | refine below_set ?_ GE767.out) | exact HB.out)⟩
      · replace c28 := Bool.eq_false_iff.mpr c28
        subst c28
        have H1 : (some false) = some r := by rw [if_neg (show ¬ (false = true) by decide)] at H; exact H
        clear H
        have H := H1
        clear H1
        obtain rfl := Option.some.inj H
        go_enter Try.func8, Try.ntmps8
        try go_wp2_with (first | ((with_reducible refine gate_dst (N := 1) rfl ?_); refine box_event ?hg (N := 1) ?hd (cs := #[.int .i64 a0_0, .slice A0_1 l0_1.length c0_1]) (t := 41) ?hr ?_; (case hd => rfl); (case hg => rfl); (case hr => first | (go_simp; done) | (go_simp; rfl)); intro gb756 hg w47 hbox hb; have n0_ := Aside0.mk (below_step (by repeat (first | (with_reducible first | exact HB.out | apply below_alloc | apply pw_below_drewN | apply below_drew1) | exact HB.out)) hb); have n1_ := Aside0.mk (hbox); have n2_ := Aside0.mk ((by rw [hg]; exact (below_size (by repeat (first | (with_reducible first | exact HB.out | apply below_alloc | apply pw_below_drewN | apply below_drew1) | exact HB.out))) : w.heap.size ≤ gb756)); have n3_ := Aside0.mk ((by rw [hg]; exact (below_size (by repeat (first | (with_reducible first | exact HB.out | apply below_alloc | apply pw_below_drewN | apply below_drew1) | exact HB.out))) : w.heap.size ≤ gb756)); clear HB; have HB := n0_; have BK756 := n1_; have GW756 := n2_; have GE756 := n3_; clear n0_ n1_ n2_ n3_; clear hb hbox hg; have hcz48_0 : w47.cell? ⟨gb756, 0, none⟩ = some (.int .i64 a0_0) := (blk_cell BK756.out 0).trans rfl; have hcz48_1 : w47.cell? ⟨gb756, 1, none⟩ = some (.slice A0_1 l0_1.length c0_1) := (blk_cell BK756.out 1).trans rfl; have hfz48_0 := blk_frozen BK756.out 0; have hfz48_1 := blk_frozen BK756.out 1) | ((with_reducible refine gate_callee (f := 23) rfl ?_); refine goesL_ (some 9) rfl rfl Try.func23 (by kernel_rfl) rfl #[.agg #[.int .i64 a0_0, .slice A0_1 l0_1.length c0_1], .int .i64 1048576] rfl (by (try simp only [List.map_toArray, List.map_cons, List.map_nil]); first | done | rfl | (simp only [List.length_drop, List.length_take]; rfl)) ?_; (with_reducible refine (laws_szBook.calls k a0_0 _ _ l0_1 1048576 t757 _ ?side1 ?side2 A2.out).mono ?_); (case side1 => repeat (first | exact (Kd.C_below HR0_1.out HB.out) | (with_reducible refine Kd.C_alloc ?_ _) | (with_reducible refine Kd.C_drewN ?_ _) | (with_reducible refine Kd.C_drew ?_))); (case side2 => exact HC0_1.out); rintro e w49 ⟨rfl, hb⟩; refine ⟨_, rfl, ?_⟩; have n0_ := Aside0.mk (blk_below (g := gb756) (o := .cells #[.int .i64 a0_0, .slice A0_1 l0_1.length c0_1] 41 (0, 0)) (by (with_reducible repeat (first | refine blk_drewN ?_ _ | refine blk_drew ?_ | refine blk_alloc ?_ _)); exact BK756.out) hb); have n1_ := Aside0.mk (below_step (by repeat (first | (with_reducible first | exact HB.out | apply below_alloc | apply pw_below_drewN | apply below_drew1 | refine below_set ?_ GE756.out) | exact HB.out)) hb); clear BK756; clear HB; have BK756 := n0_; have HB := n1_; clear n0_ n1_; (try clear hb); (try clear hb2); (try clear hk); (try clear hi); have hcz50_0 : w49.cell? ⟨gb756, 0, none⟩ = some (.int .i64 a0_0) := (blk_cell BK756.out 0).trans rfl; have hcz50_1 : w49.cell? ⟨gb756, 1, none⟩ = some (.slice A0_1 l0_1.length c0_1) := (blk_cell BK756.out 1).trans rfl; have hfz50_0 := blk_frozen BK756.out 0; have hfz50_1 := blk_frozen BK756.out 1) | ((with_reducible refine gate_callee (f := 26) rfl ?_); refine goesL_ (some 13) rfl rfl Try.func26 (by kernel_rfl) rfl #[.agg #[.int .i64 a0_0, .slice A0_1 l0_1.length c0_1]] rfl (by (try simp only [List.map_toArray, List.map_cons, List.map_nil]); first | done | rfl | (simp only [List.length_drop, List.length_take]; rfl)) ?_; (with_reducible refine (laws_toBook.calls k a0_0 _ _ l0_1 t758 t759 _ ?side1 ?side2 A7.out).mono ?_); (case side1 => repeat (first | exact (Kd.C_below HR0_1.out HB.out) | (with_reducible refine Kd.C_alloc ?_ _) | (with_reducible refine Kd.C_drewN ?_ _) | (with_reducible refine Kd.C_drew ?_))); (case side2 => exact HC0_1.out); rintro e w51 ⟨v760, rfl, ho0, hb⟩; refine ⟨_, rfl, ?_⟩; have n0_ := Aside0.mk (Kd.S_lower ho0 (below_size (by repeat (first | (with_reducible first | exact HB.out | apply below_alloc | apply pw_below_drewN | apply below_drew1 | refine below_set ?_ GE756.out) | exact HB.out)))); have n1_ := Aside0.mk (blk_below (g := gb756) (o := .cells #[.int .i64 a0_0, .slice A0_1 l0_1.length c0_1] 41 (0, 0)) (by (with_reducible repeat (first | refine blk_drewN ?_ _ | refine blk_drew ?_ | refine blk_alloc ?_ _)); exact BK756.out) hb); have n2_ := Aside0.mk (below_step (by repeat (first | (with_reducible first | exact HB.out | apply below_alloc | apply pw_below_drewN | apply below_drew1 | refine below_set ?_ GE756.out) | exact HB.out)) hb); clear BK756; clear HB; have HO761 := n0_; have BK756 := n1_; have HB := n2_; clear n0_ n1_ n2_; (try clear hb); (try clear hb2); (try clear hk); (try clear hi); (try clear ho0); obtain ⟨Ao52, co52, eo52⟩ := Kd.S_slice HO761.out; subst eo52) | ((with_reducible refine gate_callee (f := 43) rfl ?_); refine goesL_ (some 14) rfl rfl Try.func43 (by kernel_rfl) rfl #[.agg #[.int .i64 t758, .slice Ao52 t759.length co52]] rfl (by (try simp only [List.map_toArray, List.map_cons, List.map_nil]); first | done | rfl | (simp only [List.length_drop, List.length_take]; rfl)) ?_; (with_reducible refine (spec_Tight.calls k t758 _ _ t759 t762 _ ?side1 ?side2 A8.out).mono ?_); (case side1 => repeat (first | exact (Kd.S_reads' HO761.out).2.2 | (with_reducible refine Kd.C_alloc ?_ _) | (with_reducible refine Kd.C_drewN ?_ _) | (with_reducible refine Kd.C_drew ?_))); (case side2 => exact (Kd.S_reads' HO761.out).2.1); rintro e w53 ⟨rfl, hb⟩; refine ⟨_, rfl, ?_⟩; have n0_ := Aside0.mk (Kd.S_below (by (with_reducible repeat (first | apply Kd.S_alloc | apply Kd.S_drewN | apply Kd.S_drew)); exact HO761.out) hb); have n1_ := Aside0.mk (blk_below (g := gb756) (o := .cells #[.int .i64 a0_0, .slice A0_1 l0_1.length c0_1] 41 (0, 0)) (by (with_reducible repeat (first | refine blk_drewN ?_ _ | refine blk_drew ?_ | refine blk_alloc ?_ _)); exact BK756.out) hb); have n2_ := Aside0.mk (below_step (by repeat (first | (with_reducible first | exact HB.out | apply below_alloc | apply pw_below_drewN | apply below_drew1 | refine below_set ?_ GE756.out) | exact HB.out)) hb); clear HO761; clear BK756; clear HB; have HO761 := n0_; have BK756 := n1_; have HB := n2_; clear n0_ n1_ n2_; (try clear hb); (try clear hb2); (try clear hk); (try clear hi); have hcz54_0 : w53.cell? ⟨gb756, 0, none⟩ = some (.int .i64 a0_0) := (blk_cell BK756.out 0).trans rfl; have hcz54_1 : w53.cell? ⟨gb756, 1, none⟩ = some (.slice A0_1 l0_1.length c0_1) := (blk_cell BK756.out 1).trans rfl; have hfz54_0 := blk_frozen BK756.out 0; have hfz54_1 := blk_frozen BK756.out 1) | ((with_reducible refine gate_callee (f := 26) rfl ?_); refine goesL_ (some 16) rfl rfl Try.func26 (by kernel_rfl) rfl #[.agg #[.int .i64 a0_0, .slice A0_1 l0_1.length c0_1]] rfl (by (try simp only [List.map_toArray, List.map_cons, List.map_nil]); first | done | rfl | (simp only [List.length_drop, List.length_take]; rfl)) ?_; (with_reducible refine (laws_toBook.calls k a0_0 _ _ l0_1 t763 t764 _ ?side1 ?side2 A9.out).mono ?_); (case side1 => repeat (first | exact (Kd.C_below HR0_1.out HB.out) | (with_reducible refine Kd.C_alloc ?_ _) | (with_reducible refine Kd.C_drewN ?_ _) | (with_reducible refine Kd.C_drew ?_))); (case side2 => exact HC0_1.out); rintro e w55 ⟨v765, rfl, ho0, hb⟩; refine ⟨_, rfl, ?_⟩; have n0_ := Aside0.mk (Kd.S_elder' (by (with_reducible repeat (first | apply Kd.S_alloc | apply Kd.S_drewN | apply Kd.S_drew)); exact HO761.out) (Kd.S_base ho0) hb); have n1_ := Aside0.mk (Kd.S_lower (Kd.S_new' ho0 (Kd.S_lt (by (with_reducible repeat (first | apply Kd.S_alloc | apply Kd.S_drewN | apply Kd.S_drew)); exact HO761.out))) (below_size (by repeat (first | (with_reducible first | exact HB.out | apply below_alloc | apply pw_below_drewN | apply below_drew1 | refine below_set ?_ GE756.out) | exact HB.out)))); have n2_ := Aside0.mk (blk_below (g := gb756) (o := .cells #[.int .i64 a0_0, .slice A0_1 l0_1.length c0_1] 41 (0, 0)) (by (with_reducible repeat (first | refine blk_drewN ?_ _ | refine blk_drew ?_ | refine blk_alloc ?_ _)); exact BK756.out) hb); have n3_ := Aside0.mk (below_step (by repeat (first | (with_reducible first | exact HB.out | apply below_alloc | apply pw_below_drewN | apply below_drew1 | refine below_set ?_ GE756.out) | exact HB.out)) hb); clear HO761; clear BK756; clear HB; have HO761 := n0_; have HO766 := n1_; have BK756 := n2_; have HB := n3_; clear n0_ n1_ n2_ n3_; (try clear hb); (try clear hb2); (try clear hk); (try clear hi); (try clear ho0)) | ((with_reducible refine gate_dst (N := 5) rfl ?_); refine box_event ?hg (N := 5) ?hd (cs := #[.int .i64 0, .slice none 0 0]) (t := 49) ?hr ?_; (case hd => rfl); (case hg => rfl); (case hr => first | (go_simp; done) | (go_simp; rfl)); intro gb767 hg w56 hbox hb; have n0_ := Aside0.mk (Kd.S_below (by (with_reducible repeat (first | apply Kd.S_alloc | apply Kd.S_drewN | apply Kd.S_drew)); exact HO761.out) hb); have n1_ := Aside0.mk (Kd.S_below (by (with_reducible repeat (first | apply Kd.S_alloc | apply Kd.S_drewN | apply Kd.S_drew)); exact HO766.out) hb); have n2_ := Aside0.mk (blk_below (g := gb756) (o := .cells #[.int .i64 a0_0, .slice A0_1 l0_1.length c0_1] 41 (0, 0)) (by (with_reducible repeat (first | refine blk_drewN ?_ _ | refine blk_drew ?_ | refine blk_alloc ?_ _)); exact BK756.out) hb); have n3_ := Aside0.mk (below_step (by repeat (first | (with_reducible first | exact HB.out | apply below_alloc | apply pw_below_drewN | apply below_drew1 | refine below_set ?_ GE756.out) | exact HB.out)) hb); have n4_ := Aside0.mk (hbox); have n5_ := Aside0.mk ((by rw [hg]; exact (below_size (by repeat (first | (with_reducible first | exact HB.out | apply below_alloc | apply pw_below_drewN | apply below_drew1 | refine below_set ?_ GE756.out) | exact HB.out))) : w.heap.size ≤ gb767)); have n6_ := Aside0.mk ((by rw [hg]; exact (below_size (by repeat (first | (with_reducible first | exact HB.out | apply below_alloc | apply pw_below_drewN | apply below_drew1 | refine below_set ?_ GE756.out) | exact HB.out))) : w.heap.size ≤ gb767)); have n7_ := Aside0.mk ((by rw [hg]; exact Nat.ne_of_lt (blk_lt (g := gb756) (o := .cells #[.int .i64 a0_0, .slice A0_1 l0_1.length c0_1] 41 (0, 0)) (by (with_reducible repeat (first | refine blk_drewN ?_ _ | refine blk_drew ?_ | refine blk_alloc ?_ _)); exact BK756.out)) : gb756 ≠ gb767)); have n8_ := Aside0.mk ((by rw [hg]; exact Nat.ne_of_gt (blk_lt (g := gb756) (o := .cells #[.int .i64 a0_0, .slice A0_1 l0_1.length c0_1] 41 (0, 0)) (by (with_reducible repeat (first | refine blk_drewN ?_ _ | refine blk_drew ?_ | refine blk_alloc ?_ _)); exact BK756.out)) : gb767 ≠ gb756)); clear HO761; clear HO766; clear BK756; clear HB; have HO761 := n0_; have HO766 := n1_; have BK756 := n2_; have HB := n3_; have BK767 := n4_; have GW767 := n5_; have GE767 := n6_; have NB756_767 := n7_; have NB767_756 := n8_; clear n0_ n1_ n2_ n3_ n4_ n5_ n6_ n7_ n8_; clear hb hbox hg; have hnb57 := NB767_756.out; have hnc57 := NB756_767.out; have hcz58_0 : w56.cell? ⟨gb767, 0, none⟩ = some (.int .i64 0) := (blk_cell BK767.out 0).trans rfl; have hcz58_1 : w56.cell? ⟨gb767, 1, none⟩ = some (.slice none 0 0) := (blk_cell BK767.out 1).trans rfl; have hfz58_0 := blk_frozen BK767.out 0; have hfz58_1 := blk_frozen BK767.out 1; obtain ⟨Ao59, co59, eo59⟩ := Kd.S_slice HO766.out; subst eo59) | ((with_reducible refine gate_callee (f := 44) rfl ?_); refine goesL_ (some 18) rfl rfl Try.func44 (by kernel_rfl) rfl #[.agg #[.int .i64 t763, .slice Ao59 t764.length co59]] rfl (by (try simp only [List.map_toArray, List.map_cons, List.map_nil]); first | done | rfl | (simp only [List.length_drop, List.length_take]; rfl)) ?_; (with_reducible refine (impl_Tight.calls k t763 _ _ t764 t768 _ ?side1 ?side2 A10.out).mono ?_); (case side1 => refine (Kd.S_reads' (e := 90) (base := w.heap.size) (ok := fun k_ => (True ∧ some k_ ≠ (.slice Ao52 t759.length co52 : Value).ownBlock)) (n := t764.length) (c := co59) ?_).2.2; exact (by (with_reducible repeat (first | apply Kd.S_alloc | apply Kd.S_drewN | apply Kd.S_drew)); exact (Kd.S_mono (Kd.S_far (p := ⟨gb767, 1, none⟩) (Kd.S_far (p := ⟨gb767, 0, none⟩) (Kd.S_types HO766.out BK767.out (by decide)) (fun _ hk => hk.2) (.int .i64 t763)) (fun _ hk => hk.2) (.slice Ao59 t764.length co59)) (fun _ h_ => h_.1)))); (case side2 => exact (Kd.S_reads' HO766.out).2.1); rintro e w60 ⟨rfl, hb⟩; refine ⟨_, rfl, ?_⟩; have n0_ := Aside0.mk (Kd.S_below (by (with_reducible repeat (first | apply Kd.S_alloc | apply Kd.S_drewN | apply Kd.S_drew)); exact (Kd.S_mono (Kd.S_far (p := ⟨gb767, 1, none⟩) (Kd.S_far (p := ⟨gb767, 0, none⟩) (Kd.S_types HO761.out BK767.out (by decide)) (fun _ hk => hk.2) (.int .i64 t763)) (fun _ hk => hk.2) (.slice Ao59 t764.length co59)) (fun _ h_ => h_.1))) hb); have n1_ := Aside0.mk (Kd.S_below (by (with_reducible repeat (first | apply Kd.S_alloc | apply Kd.S_drewN | apply Kd.S_drew)); exact (Kd.S_mono (Kd.S_far (p := ⟨gb767, 1, none⟩) (Kd.S_far (p := ⟨gb767, 0, none⟩) (Kd.S_types HO766.out BK767.out (by decide)) (fun _ hk => hk.2) (.int .i64 t763)) (fun _ hk => hk.2) (.slice Ao59 t764.length co59)) (fun _ h_ => h_.1))) hb); have n2_ := Aside0.mk (blk_below (g := gb756) (o := .cells #[.int .i64 a0_0, .slice A0_1 l0_1.length c0_1] 41 (0, 0)) (by (with_reducible repeat (first | refine blk_drewN ?_ _ | refine blk_drew ?_ | refine blk_alloc ?_ _)); refine blk_far ?_ NB756_767.out _; (with_reducible repeat (first | refine blk_drewN ?_ _ | refine blk_drew ?_ | refine blk_alloc ?_ _)); refine blk_far ?_ NB756_767.out _; (with_reducible repeat (first | refine blk_drewN ?_ _ | refine blk_drew ?_ | refine blk_alloc ?_ _)); exact BK756.out) hb); have n3_ := Aside0.mk (blk_below (g := gb767) (o := .cells #[.int .i64 t763, .slice Ao59 t764.length co59] 49 (0, 0)) (by (with_reducible repeat (first | refine blk_drewN ?_ _ | refine blk_drew ?_ | refine blk_alloc ?_ _)); refine blk_put (cs := #[.int .i64 t763, .slice none 0 0]) ?_ 1 _ rfl; (with_reducible repeat (first | refine blk_drewN ?_ _ | refine blk_drew ?_ | refine blk_alloc ?_ _)); refine blk_put (cs := #[.int .i64 0, .slice none 0 0]) ?_ 0 _ rfl; (with_reducible repeat (first | refine blk_drewN ?_ _ | refine blk_drew ?_ | refine blk_alloc ?_ _)); exact BK767.out) hb); have n4_ := Aside0.mk (below_step (by repeat (first | (with_reducible first | exact HB.out | apply below_alloc | apply pw_below_drewN | apply below_drew1 | refine below_set ?_ GE756.out | refine below_set ?_ GE767.out) | exact HB.out)) hb); clear HO761; clear HO766; clear BK756; clear BK767; clear HB; have HO761 := n0_; have HO766 := n1_; have BK756 := n2_; have BK767 := n3_; have HB := n4_; clear n0_ n1_ n2_ n3_ n4_; (try clear hb); (try clear hb2); (try clear hk); (try clear hi)))
        have n0_ := Aside0.mk (Kd.S_drew HO761.out)
        have n1_ := Aside0.mk (Kd.S_drew HO766.out)
        have n2_ := Aside0.mk (blk_drew BK756.out)
        have n3_ := Aside0.mk (blk_drew BK767.out)
        have n4_ := Aside0.mk (below_drew1 HB.out)
        clear HO761
        clear HO766
        clear BK756
        clear BK767
        clear HB
        have HO761 := n0_
        have HO766 := n1_
        have BK756 := n2_
        have BK767 := n3_
        have HB := n4_
        clear n0_ n1_ n2_ n3_ n4_
        refine start_ (n := 5) (S := fun w' => w'.cell? ⟨gb767, 0, none⟩ = some (.int .i64 t763) ∧ w'.cell? ⟨gb767, 1, none⟩ = some (.slice Ao59 t764.length co59) ∧ w'.cell? ⟨gb756, 0, none⟩ = some (.int .i64 a0_0) ∧ w'.cell? ⟨gb756, 1, none⟩ = some (.slice A0_1 l0_1.length c0_1)) (ds := []) #[false, false, false, false, false] (by kernel_rfl) rfl rfl ⟨(blk_cell BK767.out 0).trans rfl, (blk_cell BK767.out 1).trans rfl, (blk_cell BK756.out 0).trans rfl, (blk_cell BK756.out 1).trans rfl⟩ (fun hHeld => ?_)
        generalize w60.drew = w61 at HO761 HO766 BK756 BK767 HB hHeld ⊢
        refine take_ (i := 0) (N := some 22) (v := ?_) (a' := ?_) #[true, false, false, false, false] rfl rfl (by kernel_rfl) (fun _ _ _ h => h) (Or.inl ⟨by rfl, ?_⟩) hHeld ?_ ?_
        rotate_left
        · rintro w' ⟨s0, s1, s2, s3⟩
          go_simp
          with_reducible rfl
        rotate_left
        · simp only [Act.put, List.setIfInBounds_toArray, List.set_cons_zero, List.set_cons_succ, i64_w, i32_w]
          rfl
        refine take_ (i := 1) (N := some 23) (v := ?_) (a' := ?_) #[true, true, false, false, false] rfl rfl (by kernel_rfl) (fun _ _ _ h => h) (Or.inl ⟨by rfl, ?_⟩) hHeld ?_ ?_
        rotate_left
        · rintro w' ⟨s0, s1, s2, s3⟩
          go_simp
          with_reducible rfl
        rotate_left
        · simp only [Act.put, List.setIfInBounds_toArray, List.set_cons_zero, List.set_cons_succ, i64_w, i32_w]
          rfl
        refine one_ (i := 2) (N := some 24) #[true, true, true, false, false] rfl rfl (by kernel_rfl) (by decide) (fun K hK => ?_)
        refine goes_ Try.func26 (by kernel_rfl) rfl #[.agg #[.int .i64 a0_0, .slice A0_1 l0_1.length c0_1]] (by rfl) rfl rfl (by (try simp only [List.map_toArray, List.map_cons, List.map_nil]); first | done | rfl | (simp only [List.length_drop, List.length_take]; rfl)) ?_
        with_reducible refine (laws_toBook.calls k a0_0 _ _ l0_1 t769 t770 _ ?side1 ?side2 A26.out).mono ?_
        (case side1 => repeat (first | exact (Kd.C_below HR0_1.out HB.out) | (with_reducible refine Kd.C_alloc ?_ _) | (with_reducible refine Kd.C_drewN ?_ _) | (with_reducible refine Kd.C_drew ?_)))
        (case side2 => exact HC0_1.out)
        rintro e w62 ⟨v771, rfl, ho0, hb⟩
        refine ⟨_, rfl, ?_⟩
        have n0_ := Aside0.mk (Kd.S_elder' (by (with_reducible repeat (first | apply Kd.S_alloc | apply Kd.S_drewN | apply Kd.S_drew)); exact HO761.out) (Kd.S_base ho0) hb)
        have n1_ := Aside0.mk (Kd.S_elder' (by (with_reducible repeat (first | apply Kd.S_alloc | apply Kd.S_drewN | apply Kd.S_drew)); exact HO766.out) (Kd.S_base ho0) hb)
        have n2_ := Aside0.mk (Kd.S_lower (Kd.S_new' (Kd.S_new' ho0 (Kd.S_lt (by (with_reducible repeat (first | apply Kd.S_alloc | apply Kd.S_drewN | apply Kd.S_drew)); exact HO761.out))) (Kd.S_lt (by (with_reducible repeat (first | apply Kd.S_alloc | apply Kd.S_drewN | apply Kd.S_drew)); exact HO766.out))) (below_size (by repeat (first | (with_reducible first | exact HB.out | apply below_alloc | apply pw_below_drewN | apply below_drew1 | refine below_set ?_ GE756.out | refine below_set ?_ GE767.out) | exact HB.out))))
        have n3_ := Aside0.mk (blk_below (g := gb756) (o := .cells #[.int .i64 a0_0, .slice A0_1 l0_1.length c0_1] 41 (0, 0)) (by (with_reducible repeat (first | refine blk_drewN ?_ _ | refine blk_drew ?_ | refine blk_alloc ?_ _)); exact BK756.out) hb)
        have n4_ := Aside0.mk (blk_below (g := gb767) (o := .cells #[.int .i64 t763, .slice Ao59 t764.length co59] 49 (0, 0)) (by (with_reducible repeat (first | refine blk_drewN ?_ _ | refine blk_drew ?_ | refine blk_alloc ?_ _)); exact BK767.out) hb)
        have n5_ := Aside0.mk (below_step (by repeat (first | (with_reducible first | exact HB.out | apply below_alloc | apply pw_below_drewN | apply below_drew1 | refine below_set ?_ GE756.out | refine below_set ?_ GE767.out) | exact HB.out)) hb)
        clear HO761
        clear HO766
        clear BK756
        clear BK767
        clear HB
        have HO761 := n0_
        have HO766 := n1_
        have HO772 := n2_
        have BK756 := n3_
        have BK767 := n4_
        have HB := n5_
        clear n0_ n1_ n2_ n3_ n4_ n5_
        (try clear hb)
        (try clear hb2)
        (try clear hk)
        (try clear hi)
        (try clear ho0)
        obtain ⟨Ao63, co63, eo63⟩ := Kd.S_slice HO772.out
        (first | subst eo63 | (injection eo63 with f1_ f2_ f3_; have f4_ := f1_.symm; have f5_ := f3_.symm; clear f1_ f2_ f3_; subst f4_; subst f5_))
        refine hK.out _ _ ⟨(blk_cell BK767.out 0).trans rfl, (blk_cell BK767.out 1).trans rfl, (blk_cell BK756.out 0).trans rfl, (blk_cell BK756.out 1).trans rfl⟩ (fun hHeld => ?_)
        clear hK K
        refine norm_ (a' := ?_) ?_ ?_
        rotate_left
        · show Act.put _ (some 24) _ = _
          simp only [Act.put, List.setIfInBounds_toArray, List.set_cons_zero, List.set_cons_succ, i64_w, i32_w]
          rfl
        refine one_ (i := 3) (N := some 25) #[true, true, true, true, false] rfl rfl (by kernel_rfl) (by decide) (fun K hK => ?_)
        refine goes_ Try.func29 (by kernel_rfl) rfl #[.agg #[.int .i64 t763, .slice Ao59 t764.length co59], .agg #[.int .i64 t769, .slice Ao63 t770.length co63]] (by rfl) rfl rfl (by (try simp only [List.map_toArray, List.map_cons, List.map_nil]); first | done | rfl | (simp only [List.length_drop, List.length_take]; rfl)) ?_
        with_reducible refine (laws_eqBook.calls k t763 _ _ t764 t769 _ _ t770 false _ ?side1 ?side2 ?side3 ?side4 A27.out).mono ?_
        (case side1 => repeat (first | exact (Kd.S_reads' HO766.out).2.2 | (with_reducible refine Kd.C_alloc ?_ _) | (with_reducible refine Kd.C_drewN ?_ _) | (with_reducible refine Kd.C_drew ?_)))
        (case side2 => exact (Kd.S_reads' HO766.out).2.1)
        (case side3 => repeat (first | exact (Kd.S_reads' HO772.out).2.2 | (with_reducible refine Kd.C_alloc ?_ _) | (with_reducible refine Kd.C_drewN ?_ _) | (with_reducible refine Kd.C_drew ?_)))
        (case side4 => exact (Kd.S_reads' HO772.out).2.1)
        rintro e w64 ⟨rfl, hb⟩
        refine ⟨_, rfl, ?_⟩
        have n0_ := Aside0.mk (Kd.S_below (by (with_reducible repeat (first | apply Kd.S_alloc | apply Kd.S_drewN | apply Kd.S_drew)); exact HO761.out) hb)
        have n1_ := Aside0.mk (Kd.S_below (by (with_reducible repeat (first | apply Kd.S_alloc | apply Kd.S_drewN | apply Kd.S_drew)); exact HO766.out) hb)
        have n2_ := Aside0.mk (Kd.S_below (by (with_reducible repeat (first | apply Kd.S_alloc | apply Kd.S_drewN | apply Kd.S_drew)); exact HO772.out) hb)
        have n3_ := Aside0.mk (blk_below (g := gb756) (o := .cells #[.int .i64 a0_0, .slice A0_1 l0_1.length c0_1] 41 (0, 0)) (by (with_reducible repeat (first | refine blk_drewN ?_ _ | refine blk_drew ?_ | refine blk_alloc ?_ _)); exact BK756.out) hb)
        have n4_ := Aside0.mk (blk_below (g := gb767) (o := .cells #[.int .i64 t763, .slice Ao59 t764.length co59] 49 (0, 0)) (by (with_reducible repeat (first | refine blk_drewN ?_ _ | refine blk_drew ?_ | refine blk_alloc ?_ _)); exact BK767.out) hb)
        have n5_ := Aside0.mk (below_step (by repeat (first | (with_reducible first | exact HB.out | apply below_alloc | apply pw_below_drewN | apply below_drew1 | refine below_set ?_ GE756.out | refine below_set ?_ GE767.out) | exact HB.out)) hb)
        clear HO761
        clear HO766
        clear HO772
        clear BK756
        clear BK767
        clear HB
        have HO761 := n0_
        have HO766 := n1_
        have HO772 := n2_
        have BK756 := n3_
        have BK767 := n4_
        have HB := n5_
        clear n0_ n1_ n2_ n3_ n4_ n5_
        (try clear hb)
        (try clear hb2)
        (try clear hk)
        (try clear hi)
        refine hK.out _ _ ⟨(blk_cell BK767.out 0).trans rfl, (blk_cell BK767.out 1).trans rfl, (blk_cell BK756.out 0).trans rfl, (blk_cell BK756.out 1).trans rfl⟩ (fun hHeld => ?_)
        clear hK K
        refine norm_ (a' := ?_) ?_ ?_
        rotate_left
        · show Act.put _ (some 25) _ = _
          simp only [Act.put, List.setIfInBounds_toArray, List.set_cons_zero, List.set_cons_succ, i64_w, i32_w]
          rfl
        refine pure_ (i := 4) (N := some 26) (v := ?_) (a' := ?_) #[true, true, true, true, true] rfl rfl (by kernel_rfl) (fun _ _ _ h => h) (Or.inl ⟨by rfl, ?_⟩) ?_ ?_
        rotate_left
        · intro w'
          go_simp
          with_reducible rfl
        rotate_left
        · simp only [Act.put, List.setIfInBounds_toArray, List.set_cons_zero, List.set_cons_succ, i64_w, i32_w]
          rfl
        refine done_ (by kernel_rfl) ?_
        try go_wp2
        go_ret
        exact ⟨by first | rfl | (simp [errW_none, errW_some] <;> rfl) | (simp [*, errW_none, errW_some] <;> rfl), by repeat (first | (with_reducible first | exact HB.out | apply below_alloc | apply pw_below_drewN | apply below_drew1 | refine below_set ?_ GE756.out | refine below_set ?_ GE767.out) | exact HB.out)⟩

end Go.Proofs.Ytngjaajcdbodeaa.All

/- Opening of arguments: what reads as data of a type is of its kind. No condition. -/
namespace Go.Proofs.Ytngjaajcdbodeaa.Op
open Go.Proofs.YtngjaajcdbodeaaW.PrintWords
open Go.Deep
set_option linter.unusedVariables false

/-- What reads as data of type t is of the kind d, and good. -/
def Opens {α : Type} (P : Program) (t : TypeId) (d : Kd α) (good : α → Prop) : Prop :=
  ∀ {H : Type} {enc : TypeId × Value → H} {w : World} {base : Nat} {spare : Nat → Bool} {held : Bool} {fuel : Nat} {cs : List Value} {x : DataW H × List MemPlace},
    DataW.trod enc P w base spare held fuel t cs = some x → ∃ y, d.K w y cs ∧ good y

def goodInt (n : Int) : Prop := -9223372036854775808 ≤ n ∧ n ≤ 9223372036854775807

theorem goodInt_of_wf {n : Int} (h : (Lit.int .i64 n).wf = true) : goodInt n := by
  simp [Lit.wf, IntKind.min, IntKind.max, IntKind.signed, IntKind.bits] at h
  unfold goodInt
  omega

theorem opens_int {P : Program} {t : TypeId} (ht : P.underlying t = some (.int .i64)) : Opens P t (Kd.int .i64) goodInt := by
  intro H enc w base spare held fuel cs x h
  obtain ⟨n, rfl, _, hw⟩ := DataW.trod_int ht h
  exact ⟨n, rfl, goodInt_of_wf hw⟩

theorem opens_bool {P : Program} {t : TypeId} (ht : P.underlying t = some .bool) : Opens P t Kd.bool (fun _ => True) := by
  intro H enc w base spare held fuel cs x h
  obtain ⟨n, rfl, _⟩ := DataW.trod_bool ht h
  exact ⟨n, rfl, trivial⟩

theorem opens_slice {α : Type} {P : Program} {t e : TypeId} {d : Kd α} {good : α → Prop} (ht : P.underlying t = some (.slice e)) (hC : P.cellsOf e = d.sz) (he : Opens P e d good) :
    Opens P t (Kd.slice e d) (fun xs => xs.length ≤ 9223372036854775807 ∧ ∀ y ∈ xs, good y) := by
  intro H enc w base spare held fuel cs x h
  rcases open_slice ht h with ⟨rfl, _⟩ | ⟨a, len, cap, m, n, D, Pl, rfl, hb, hl, hm, hmm, rfl, hx⟩
  · exact ⟨[], ⟨none, 0, rfl, Nat.le_refl _, ⟨rfl, by simp, fun h => absurd h (Nat.lt_irrefl 0)⟩⟩, by simp, by simp⟩
  · have hlm : len ≤ m := by rw [hmm]; split <;> omega
    have hex : ∀ i : Nat, ∃ y : α ⊕ Unit, i < len → ∃ z cs', y = .inl z ∧ d.K w z cs' ∧ good z ∧ w.cells? base (a.add (i * d.sz)) d.sz = some cs' := by
      intro i
      by_cases hi : i < len
      · obtain ⟨cs', h1, h2⟩ := hx i (by omega)
        obtain ⟨z, hz, hg⟩ := he h2
        exact ⟨.inl z, fun _ => ⟨z, cs', rfl, hz, hg, by rw [← hC]; exact h1⟩⟩
      · exact ⟨.inr (), fun h => absurd h hi⟩
    obtain ⟨f, hf⟩ := Classical.axiomOfChoice hex
    have hlist : ∀ k, k ≤ len → ∃ ys : List α, ys.length = k ∧ ∀ i y, ys[i]? = some y → f i = .inl y := by
      intro k
      induction k with
      | zero => exact fun _ => ⟨[], rfl, fun i y h => by simp at h⟩
      | succ k ih =>
        intro hk
        obtain ⟨ys, hys, hall⟩ := ih (by omega)
        obtain ⟨z, cs', hz, _⟩ := hf k (by omega)
        refine ⟨ys ++ [z], by simp [hys], fun i y hy => ?_⟩
        rcases Nat.lt_or_ge i ys.length with hi | hi
        · rw [List.getElem?_append_left hi] at hy
          exact hall i y hy
        · have hik : i = k := by
            have := (List.getElem?_eq_some_iff.1 hy).1
            simp at this
            omega
          subst hik
          rw [List.getElem?_append_right (by omega)] at hy
          simp [hys] at hy
          rw [hz, hy]
    obtain ⟨ys, hys, hall⟩ := hlist len (Nat.le_refl _)
    have hget : ∀ i y, ys[i]? = some y → ∃ cs', d.K w y cs' ∧ good y ∧ w.cells? base (a.add (i * d.sz)) d.sz = some cs' := by
      intro i y hy
      have hi : i < len := by rw [← hys]; exact (List.getElem?_eq_some_iff.1 hy).1
      obtain ⟨z, cs', hz, hK, hg, hc⟩ := hf i hi
      have := hall i y hy
      rw [hz] at this
      cases this
      exact ⟨cs', hK, hg, hc⟩
    subst hys
    refine ⟨ys, ⟨some a, cap, rfl, hl, ⟨rfl, by unfold maxLen at hm; omega, fun _ => ⟨a, rfl, fun j p hp => ?_⟩⟩⟩, by unfold maxLen at hm; omega, fun y hy => ?_⟩
    · obtain ⟨cs', hK, _, hc⟩ := hget j p hp
      obtain ⟨_, hcl, hat⟩ := World.cells?_some hc
      refine ⟨cs', hcl, hK, fun i u hu => ?_⟩
      have hi : i < d.sz := by rw [← hcl]; exact (List.getElem?_eq_some_iff.1 hu).1
      have := hat i hi
      rw [← Go.Deep.add_add, this, hu]
    · obtain ⟨i, hi⟩ := List.getElem?_of_mem hy
      obtain ⟨_, _, hg, _⟩ := hget i y hi
      exact hg

theorem opens_pair2 {α β γ : Type} {P : Program} {t : TypeId} {f0 f1 : Field} {d0 : Kd α} {d1 : Kd β} {g0 : α → Prop} {g1 : β → Prop} (f : γ → α × β) (mk : α → β → γ) (hmk : ∀ a b, f (mk a b) = (a, b))
    (ht : P.underlying t = some (.struct #[f0, f1])) (hc : P.cellsOf t = d0.sz + d1.sz) (ho0 : f0.offset = 0) (ho1 : f1.offset = d0.sz) (hc0 : P.cellsOf f0.type = d0.sz) (hc1 : P.cellsOf f1.type = d1.sz)
    (h0 : Opens P f0.type d0 g0) (h1 : Opens P f1.type d1 g1) : Opens P t (Kd.iso (Kd.pair d0 d1) f) (fun y => g0 (f y).1 ∧ g1 (f y).2) := by
  intro H enc w base spare held fuel cs x h
  obtain ⟨y0, y1, n, _, hl, ht0, ht1⟩ := ChangeShapes.trod_struct2 ht h
  obtain ⟨a, ha, ga⟩ := h0 ht0
  obtain ⟨b, hb, gb⟩ := h1 ht1
  rw [ho0, hc0] at ha
  rw [ho1, hc1] at hb
  refine ⟨mk a b, ⟨_, _, ?_, by rw [hmk]; exact ha, by rw [hmk]; exact hb⟩, show g0 (f (mk a b)).1 ∧ g1 (f (mk a b)).2 by rw [hmk]; exact ⟨ga, gb⟩⟩
  rw [List.drop_zero, List.take_of_length_le (l := List.drop d0.sz cs) (by rw [List.length_drop]; omega), List.take_append_drop]

def goodByte (n : Int) : Prop := 0 ≤ n ∧ n ≤ 255

theorem opens_byte {P : Program} {t : TypeId} (ht : P.underlying t = some (.int .u8)) : Opens P t (Kd.int .u8) goodByte := by
  intro H enc w base spare held fuel cs x h
  obtain ⟨n, rfl, _, hw⟩ := DataW.trod_int ht h
  refine ⟨n, rfl, ?_⟩
  simp [Lit.wf, IntKind.min, IntKind.max, IntKind.signed, IntKind.bits] at hw
  unfold goodByte
  omega

theorem opens_int4 {γ : Type} {P : Program} {t : TypeId} {f0 f1 f2 f3 : Field} {g0 g1 g2 g3 : Int → Prop} (f : γ → Int × Int × Int × Int) (mk : Int → Int → Int → Int → γ) (hmk : ∀ a b c d, f (mk a b c d) = (a, b, c, d))
    (ht : P.underlying t = some (.struct #[f0, f1, f2, f3])) (hc : P.cellsOf t = 4) (ho0 : f0.offset = 0) (ho1 : f1.offset = 1) (ho2 : f2.offset = 2) (ho3 : f3.offset = 3)
    (hc0 : P.cellsOf f0.type = 1) (hc1 : P.cellsOf f1.type = 1) (hc2 : P.cellsOf f2.type = 1) (hc3 : P.cellsOf f3.type = 1)
    (h0 : Opens P f0.type (Kd.int .i64) g0) (h1 : Opens P f1.type (Kd.int .i64) g1) (h2 : Opens P f2.type (Kd.int .i64) g2) (h3 : Opens P f3.type (Kd.int .i64) g3) :
    Opens P t (Kd.iso (Kd.pair (Kd.int .i64) (Kd.pair (Kd.int .i64) (Kd.pair (Kd.int .i64) (Kd.int .i64)))) f) (fun y => g0 (f y).1 ∧ g1 (f y).2.1 ∧ g2 (f y).2.2.1 ∧ g3 (f y).2.2.2) := by
  intro H enc w base spare held fuel cs x h
  obtain ⟨xs, n, _, _, hl, hlen, hf⟩ := DataW.trod_struct ht h
  have hn : ∀ i, i < 4 → ∃ y, xs[i]? = some y := fun i hi => ⟨_, List.getElem?_eq_getElem (by rw [hlen]; exact hi)⟩
  obtain ⟨y0, e0⟩ := hn 0 (by omega)
  obtain ⟨y1, e1⟩ := hn 1 (by omega)
  obtain ⟨y2, e2⟩ := hn 2 (by omega)
  obtain ⟨y3, e3⟩ := hn 3 (by omega)
  obtain ⟨a, ha, ga⟩ := h0 ((hf 0 f0 rfl).trans e0)
  obtain ⟨b, hb, gb⟩ := h1 ((hf 1 f1 rfl).trans e1)
  obtain ⟨c, hcc, gc⟩ := h2 ((hf 2 f2 rfl).trans e2)
  obtain ⟨d, hd, gd⟩ := h3 ((hf 3 f3 rfl).trans e3)
  rw [ho0, hc0] at ha
  rw [ho1, hc1] at hb
  rw [ho2, hc2] at hcc
  rw [ho3, hc3] at hd
  rw [hc] at hl
  match cs, hl with
  | [v0, v1, v2, v3], _ =>
    have ea : v0 = .int .i64 a := by simpa [Kd.int, Kd.scalar] using ha
    have eb : v1 = .int .i64 b := by simpa [Kd.int, Kd.scalar] using hb
    have ec : v2 = .int .i64 c := by simpa [Kd.int, Kd.scalar] using hcc
    have ed : v3 = .int .i64 d := by simpa [Kd.int, Kd.scalar] using hd
    subst ea eb ec ed
    refine ⟨mk a b c d, ?_, ?_⟩
    · show (Kd.pair (Kd.int .i64) (Kd.pair (Kd.int .i64) (Kd.pair (Kd.int .i64) (Kd.int .i64)))).K w (f (mk a b c d)) _
      rw [hmk]
      exact ⟨[_], [_, _, _], rfl, rfl, ⟨[_], [_, _], rfl, rfl, ⟨[_], [_], rfl, rfl, rfl⟩⟩⟩
    · show g0 (f (mk a b c d)).1 ∧ g1 (f (mk a b c d)).2.1 ∧ g2 (f (mk a b c d)).2.2.1 ∧ g3 (f (mk a b c d)).2.2.2
      rw [hmk]
      exact ⟨ga, gb, gc, gd⟩

end Go.Proofs.Ytngjaajcdbodeaa.Op

/- What reads as data of the laws' argument types is of their kinds. -/
namespace Go.Proofs.Ytngjaajcdbodeaa.Op
open Go.Proofs.Ytngjaajcdbodeaa.All Go.Proofs.YtngjaajcdbodeaaW.PrintWords
def good3 (n : Int) : Prop := goodInt n
theorem op3 : Opens Try.prog 3 (Kd.int .i64) good3 := opens_int Try.underlying3
def good4 (_ : Bool) : Prop := True
theorem op4 : Opens Try.prog 4 Kd.bool good4 := opens_bool Try.underlying4
def good24 (x : S24) : Prop := good3 x.f0 ∧ good3 x.f1 ∧ good3 x.f2 ∧ good3 x.f3
theorem op24 : Opens Try.prog 24 k24 good24 := opens_int4 (fun x : S24 => (x.f0, x.f1, x.f2, x.f3)) (fun a b c d => ⟨a, b, c, d⟩) (fun _ _ _ _ => rfl) Try.underlying24 (by kernel_rfl) rfl rfl rfl rfl (by kernel_rfl) (by kernel_rfl) (by kernel_rfl) (by kernel_rfl) op3 op3 op3 op3
def good122 (x : S122) : Prop := good3 x.f0 ∧ good24 x.f1
theorem op122 : Opens Try.prog 122 k122 good122 := opens_pair2 (d0 := (Kd.int .i64)) (d1 := k24) (fun x : S122 => (x.f0, x.f1)) (fun a b => ⟨a, b⟩) (fun _ _ => rfl) Try.underlying122 (by kernel_rfl) rfl rfl (by kernel_rfl) (by kernel_rfl) op3 op24
def good42 (xs : List (S122)) : Prop := xs.length ≤ 9223372036854775807 ∧ ∀ y ∈ xs, good122 y
theorem op42 : Opens Try.prog 42 (Kd.slice 122 k122) good42 := opens_slice Try.underlying42 (by kernel_rfl) op122
def good44 (x : S44) : Prop := good4 x.f0 ∧ good42 x.f1
theorem op44 : Opens Try.prog 44 k44 good44 := opens_pair2 (d0 := Kd.bool) (d1 := (Kd.slice 122 k122)) (fun x : S44 => (x.f0, x.f1)) (fun a b => ⟨a, b⟩) (fun _ _ => rfl) Try.underlying44 (by kernel_rfl) rfl rfl (by kernel_rfl) (by kernel_rfl) op4 op42
def good118 (x : S118) : Prop := good4 x.f0 ∧ good44 x.f1
theorem op118 : Opens Try.prog 118 k118 good118 := opens_pair2 (d0 := Kd.bool) (d1 := k44) (fun x : S118 => (x.f0, x.f1)) (fun a b => ⟨a, b⟩) (fun _ _ => rfl) Try.underlying118 (by kernel_rfl) rfl rfl (by kernel_rfl) (by kernel_rfl) op4 op44
def good39 (xs : List (S118)) : Prop := xs.length ≤ 9223372036854775807 ∧ ∀ y ∈ xs, good118 y
theorem op39 : Opens Try.prog 39 (Kd.slice 118 k118) good39 := opens_slice Try.underlying39 (by kernel_rfl) op118
def good41 (x : (Int × List (S118))) : Prop := good3 x.1 ∧ good39 x.2
theorem op41 : Opens Try.prog 41 (Kd.iso (Kd.pair (Kd.int .i64) (Kd.slice 118 k118)) (fun x : (Int × List (S118)) => x)) good41 := opens_pair2 (d0 := (Kd.int .i64)) (d1 := (Kd.slice 118 k118)) (fun x : (Int × List (S118)) => x) (fun a b => (a, b)) (fun _ _ => rfl) Try.underlying41 (by kernel_rfl) rfl rfl (by kernel_rfl) (by kernel_rfl) op3 op39
end Go.Proofs.Ytngjaajcdbodeaa.Op

/- Plain laws of the printed functions over lists of entries: what is made of a list. No condition. -/
namespace Go.Proofs.Ytngjaajcdbodeaa.Pure
open Go.RowKit Go.Proofs.Ytngjaajcdbodeaa.All Go.Proofs.YtngjaajcdbodeaaW.PrintWords Go.Proofs.YtngjaajcdbodeaaW.PrintLast
set_option linter.unusedVariables false

def big : Nat := 1152921504606846976
theorem wrap_small {a : Int} (h0 : -9223372036854775808 ≤ a) (h1 : a ≤ 9223372036854775807) : wrap64 a = a := by
  unfold wrap64
  omega
theorem wrap_succ {i n : Nat} (h : i < n) (hn : n ≤ big) : wrap64 ((i : Int) + 1) = ((i + 1 : Nat) : Int) := by
  unfold big at hn
  rw [wrap_small (by omega) (by omega)]
  omega
/-- A loop, told from its end. -/
theorem down {P : Nat → Prop} : ∀ (n : Nat), (∀ i, i < n → P (i + 1) → P i) → P n → P 0
  | 0, _, h => h
  | n + 1, hs, h => down n (fun i hi => hs i (by omega)) (hs n (by omega) h)
/-- The same from i on. -/
theorem downFrom {P : Nat → Prop} (i : Nat) : ∀ (d : Nat), (∀ j, i ≤ j → j < i + d → P (j + 1) → P j) → P (i + d) → P i
  | 0, _, h => h
  | d + 1, hs, h => downFrom i d (fun j h0 hj => hs j h0 (by omega)) (hs (i + d) (by omega) (by omega) h)

theorem rdE_at (l : List En) (i : Nat) : rd_T103 l (i : Int) = l.getD i z103 := rfl
theorem rdB_at (l : List Bx) (i : Nat) : rd_T32 l (i : Int) = l.getD i z32 := rfl

/-- A loop that fills a row of the same length. -/
theorem fill_loop {α β : Type} {L : Nat → List α → List β → Int → Option (List β)} {f : α → β} {F : Nat → α → Option β} (d : α)
    (hstep : ∀ k (xs : List α) (acc : List β) (i : Nat), i < xs.length → acc.length = xs.length → L (k + 1) xs acc i = (F k (xs.getD i d)).bind fun y => L k xs (acc.set i y) (wrap64 ((i : Int) + 1)))
    (hstop : ∀ k (xs : List α) (acc : List β), L (k + 1) xs acc xs.length = some acc)
    (xs : List α) (hl : xs.length ≤ big) (hF : ∀ x ∈ xs, Evn (fun k => F k x) (f x)) (z : β) : Evn (fun k => L k xs (List.replicate xs.length z) 0) (xs.map f) := by
  have key : Evn (fun k => L k xs ((xs.take 0).map f ++ List.replicate (xs.length - 0) z) ((0 : Nat) : Int)) (xs.map f) := by
    refine down (P := fun i => Evn (fun k => L k xs ((xs.take i).map f ++ List.replicate (xs.length - i) z) (i : Int)) (xs.map f)) xs.length (fun i hi h => ?_) ?_
    · refine Evn.step (fun k => hstep k xs _ i hi (by simp; omega)) ?_
      refine Evn.bind (hF _ ?_) ?_
      · rw [List.getD_eq_getElem?_getD, List.getElem?_eq_getElem hi]
        exact List.getElem_mem hi
      · rw [wrap_succ hi hl]
        refine Evn.same h (fun k => ?_)
        congr 1
        have hi' : (List.map f (List.take i xs)).length = i := by simp; omega
        rw [List.set_append, if_neg (by omega), hi', Nat.sub_self]
        obtain ⟨m, hm⟩ : ∃ m, xs.length - i = m + 1 := ⟨xs.length - i - 1, by omega⟩
        rw [hm, show xs.length - (i + 1) = m from by omega, List.replicate_succ, List.set_cons_zero, List.take_succ_eq_append_getElem hi, List.map_append, List.append_assoc, List.getD_eq_getElem?_getD, List.getElem?_eq_getElem hi]
        rfl
    · refine Evn.step (fun k => ?_) (Evn.ret _)
      rw [hstop]
      simp
  simpa using key

def toB (b : LBx) : Bx := ⟨b.f0, b.f1, b.f2, b.f3⟩
def toE (e : LEn) : En := ⟨e.f0, toB e.f1⟩
theorem toEntryS_f (l : List LEn) (hl : l.length ≤ 1048576) : Evn (fun k => laws_toEntryS.f k l) (l.map toE) := by
  have h := fill_loop (L := laws_toEntryS.l0) (f := toE) (F := fun _ x => some (toE x)) z122 (fun k xs acc i hi ha => by
    simp only [laws_toEntryS.l0]
    rw [if_pos (by omega), if_pos (by omega)]
    simp only [laws_toEntry.f, laws_toBox.f, Option.bind_some]
    rw [if_pos (by omega)]
    rfl) (fun k xs acc => by simp only [laws_toEntryS.l0]; rw [if_neg (by omega)]) l (by unfold big; omega) (fun x _ => Evn.ret _) z103
  unfold laws_toEntryS.f
  refine Evn.pos (by omega) (Evn.pos (by omega) ?_)
  exact h

/-- A loop that compares a row with itself. -/
theorem same_loop {α : Type} {L : Nat → List α → List α → Int → Option Bool}
    (hstep : ∀ k (xs : List α) (i : Nat), i < xs.length → L (k + 1) xs xs i = L k xs xs (wrap64 ((i : Int) + 1)))
    (hstop : ∀ k (xs : List α), L (k + 1) xs xs xs.length = some true) (xs : List α) (hl : xs.length ≤ big) : Evn (fun k => L k xs xs 0) true := by
  refine down (P := fun i => Evn (fun k => L k xs xs (i : Int)) true) xs.length (fun i hi h => ?_) (Evn.step (fun k => hstop k xs) (Evn.ret _))
  refine Evn.step (fun k => hstep k xs i hi) ?_
  rw [wrap_succ hi hl]
  exact h
theorem eqBox_same (a b c d : Int) : laws_eqBox.f a b c d a b c d = some true := by simp [laws_eqBox.f]
theorem eqEntryS_same (l : List En) (hl : l.length ≤ big) : Evn (fun k => laws_eqEntryS.f k l l) true := by
  unfold laws_eqEntryS.f
  refine Evn.pos rfl ?_
  refine same_loop (L := laws_eqEntryS.l0) (fun k xs i hi => ?_) (fun k xs => ?_) l hl
  · simp only [laws_eqEntryS.l0]
    rw [if_pos (by omega), if_pos (by omega), if_pos (by omega)]
    simp only [laws_eqEntry.f, eqBox_same, Option.bind_some, if_true]
  · simp only [laws_eqEntryS.l0]
    rw [if_neg (by omega)]

/-- The count of what came in, and what it leaves of a bound. -/
theorem szEntryS_f (l : List LEn) (n : Int) (hn : 0 ≤ n ∧ n ≤ 1048576) (hl : l.length ≤ 9223372036854775807) : laws_szEntryS.f l n = some (if n < l.length then -1 else n - l.length) := by
  unfold laws_szEntryS.f
  rw [wrap_small (by omega) (by omega)]
  by_cases h : n < l.length
  · rw [if_pos (by omega), if_pos h]
  · rw [if_neg (by omega), if_neg h]

end Go.Proofs.Ytngjaajcdbodeaa.Pure

/- Plain laws of the printed functions that make, weigh and compare books. No condition. -/
namespace Go.Proofs.Ytngjaajcdbodeaa.Pure
open Go.RowKit Go.Proofs.Ytngjaajcdbodeaa.All Go.Proofs.YtngjaajcdbodeaaW.PrintWords Go.Proofs.YtngjaajcdbodeaaW.PrintLast
set_option linter.unusedVariables false

abbrev LPg := S118
abbrev Pg := S90
abbrev Nd := S54
abbrev zPg : Pg := z90
def toPg (p : LPg) : Pg := ⟨p.f0, ⟨p.f1.f0, p.f1.f1.map toE⟩⟩
/-- How many entries the pages have together. -/
def heap (l : List LPg) : Nat := (l.map fun p => p.f1.f1.length).sum
theorem heap_snoc (l : List LPg) (i : Nat) (h : i < l.length) : heap (l.take (i + 1)) = heap (l.take i) + l[i].f1.f1.length := by
  unfold heap
  rw [List.take_succ_eq_append_getElem h, List.map_append, List.sum_append]
  simp
theorem heap_le (l : List LPg) (i : Nat) : heap (l.take i) ≤ heap l := by
  unfold heap
  rw [← List.take_append_drop i l, List.map_append, List.sum_append]
  simp
theorem heap_mem (l : List LPg) (p : LPg) (h : p ∈ l) : p.f1.f1.length ≤ heap l := by
  obtain ⟨i, hi, rfl⟩ := List.getElem_of_mem h
  have h1 := heap_snoc l i hi
  have h2 := heap_le l (i + 1)
  omega
theorem getD_LPg (l : List LPg) (i : Nat) (h : i < l.length) : l.getD i z118 = l[i] := by rw [List.getD_eq_getElem?_getD, List.getElem?_eq_getElem h]; rfl
theorem rdLPg_at (l : List LPg) (i : Nat) (h : i < l.length) : rd_T118 l (i : Int) = l[i] := getD_LPg l i h
theorem rdPg_at (l : List Pg) (i : Nat) (h : i < l.length) : rd_T90 l (i : Int) = l[i] := by
  show l.getD i zPg = l[i]
  rw [List.getD_eq_getElem?_getD, List.getElem?_eq_getElem h]; rfl

theorem szPage_f (a b : Bool) (l : List LEn) (n : Int) (hn : 0 ≤ n ∧ n ≤ 1048576) (hl : l.length ≤ 9223372036854775807) : laws_szPage.f a b l n = some (if n < l.length then -1 else n - l.length) := by
  unfold laws_szPage.f laws_szNode.f
  rw [szEntryS_f l n hn hl]
  simp only [Option.bind_some]
  by_cases h : n < l.length
  · simp [if_pos h]
  · rw [if_neg h, if_neg (by omega)]
    simp only [Option.bind_some]
    rw [if_neg (by omega)]
/-- What is weighed: -1 where it is too much. -/
theorem szPageS_f (l : List LPg) (n : Int) (hn : 0 ≤ n ∧ n ≤ 1048576) (hl : l.length ≤ 9223372036854775807) (hp : ∀ p ∈ l, p.f1.f1.length ≤ 9223372036854775807) :
    Evn (fun k => laws_szPageS.f k l n) (if n < l.length + heap l then -1 else n - l.length - heap l) := by
  unfold laws_szPageS.f
  rw [wrap_small (by omega) (by omega)]
  by_cases h0 : n - l.length < 0
  · rw [if_pos (show n < l.length + heap l by omega)]
    exact Evn.pos h0 (Evn.ret _)
  · refine Evn.neg h0 ?_
    have hb : l.length ≤ big := by unfold big; omega
    have key : ∀ i, ∀ hi : i < l.length, ∀ k (m : Int), 0 ≤ m → m ≤ 1048576 → laws_szPageS.l0 (k + 1) l m (i : Int) = if m < (l[i]'hi).f1.f1.length then some (-1) else laws_szPageS.l0 k l (m - (l[i]'hi).f1.f1.length) ((i + 1 : Nat) : Int) := by
      intro i hi k m hm0 hm1
      rw [laws_szPageS.l0, if_pos (by omega), if_pos (by omega), rdLPg_at l i hi, szPage_f _ _ _ _ ⟨hm0, hm1⟩ (hp _ (List.getElem_mem hi)), Option.bind_some, wrap_succ hi hb]
      by_cases hm : m < (l[i]).f1.f1.length
      · rw [if_pos hm, if_pos hm, if_pos (by omega)]
      · rw [if_neg hm, if_neg hm, if_neg (by omega)]
    have hend : ∀ k (m : Int), laws_szPageS.l0 (k + 1) l m (l.length : Int) = some m := fun k m => by rw [laws_szPageS.l0, if_neg (by omega)]
    by_cases hbig : n < l.length + heap l
    · rw [if_pos hbig]
      have := down (P := fun i => 0 ≤ n - l.length - heap (l.take i) → Evn (fun k => laws_szPageS.l0 k l (n - l.length - heap (l.take i)) (i : Int)) (-1)) l.length (fun i hi h hm => ?_) (fun hm => by rw [List.take_length] at hm; omega)
      · have h1 := this (by simp [heap]; omega)
        simpa [heap] using h1
      · refine Evn.step (fun k => key i hi k _ hm (by omega)) ?_
        by_cases hc : n - l.length - heap (l.take i) < (l[i]).f1.f1.length
        · exact Evn.pos hc (Evn.ret _)
        · refine Evn.neg hc ?_
          have hs := heap_snoc l i hi
          rw [show n - l.length - heap (l.take i) - (l[i]).f1.f1.length = n - l.length - heap (l.take (i + 1)) by omega]
          exact h (by omega)
    · rw [if_neg hbig]
      have := down (P := fun i => Evn (fun k => laws_szPageS.l0 k l (n - l.length - heap (l.take i)) (i : Int)) (n - l.length - heap l)) l.length (fun i hi h => ?_) (Evn.step (fun k => hend k _) (by rw [List.take_length]; exact Evn.ret _))
      · simpa [heap] using this
      · have hs := heap_snoc l i hi
        have hle := heap_le l (i + 1)
        refine Evn.step (fun k => key i hi k _ (by omega) (by omega)) (Evn.neg (by omega) ?_)
        rw [show n - l.length - heap (l.take i) - (l[i]).f1.f1.length = n - l.length - heap (l.take (i + 1)) by omega]
        exact h
theorem szBook_f (a : Int) (l : List LPg) (n : Int) (hn : 0 ≤ n ∧ n ≤ 1048576) (hl : l.length ≤ 9223372036854775807) (hp : ∀ p ∈ l, p.f1.f1.length ≤ 9223372036854775807) :
    Evn (fun k => laws_szBook.f k a l n) (if n < l.length + heap l then -1 else n - l.length - heap l) := by
  unfold laws_szBook.f
  refine Evn.bind (szPageS_f l n hn hl hp) ?_
  by_cases h : n < l.length + heap l
  · rw [if_pos h]
    exact Evn.ret _
  · rw [if_neg h, if_neg (by omega)]
    exact Evn.ret _

theorem toPage_f (p : LPg) (h : p.f1.f1.length ≤ 1048576) : Evn (fun k => laws_toPage.f k p.f0 p.f1.f0 p.f1.f1) (p.f0, p.f1.f0, p.f1.f1.map toE) := by
  unfold laws_toPage.f laws_toNode.f
  exact Evn.bind (Evn.bind (toEntryS_f _ h) (Evn.ret _)) (Evn.ret _)
theorem toPageS_f (l : List LPg) (hl : l.length ≤ 1048576) (hp : ∀ p ∈ l, p.f1.f1.length ≤ 1048576) : Evn (fun k => laws_toPageS.f k l) (l.map toPg) := by
  have h := fill_loop (L := laws_toPageS.l0) (f := toPg) (F := fun k p => (laws_toPage.f k p.f0 p.f1.f0 p.f1.f1).bind fun t => some (⟨t.1, ⟨t.2.1, t.2.2⟩⟩ : Pg)) z118 (fun k xs acc i hi ha => by
    simp only [laws_toPageS.l0]
    rw [if_pos (by omega), if_pos (by omega), rdLPg_at xs i hi, getD_LPg xs i hi]
    cases laws_toPage.f k (xs[i]).f0 (xs[i]).f1.f0 (xs[i]).f1.f1 with
    | none => rfl
    | some t =>
      simp only [Option.bind_some]
      rw [if_pos (by omega)]
      rfl) (fun k xs acc => by simp only [laws_toPageS.l0]; rw [if_neg (by omega)]) l (by unfold big; omega) (fun x hx => Evn.bind (toPage_f x (hp x hx)) (Evn.ret _)) zPg
  unfold laws_toPageS.f
  exact Evn.pos (by omega) (Evn.pos (by omega) h)
theorem toBook_f (a : Int) (l : List LPg) (hl : l.length ≤ 1048576) (hp : ∀ p ∈ l, p.f1.f1.length ≤ 1048576) : Evn (fun k => laws_toBook.f k a l) (a, l.map toPg) := by
  unfold laws_toBook.f
  exact Evn.bind (toPageS_f l hl hp) (Evn.ret _)

theorem eqNode_same (b : Bool) (l : List En) (hl : l.length ≤ big) : Evn (fun k => laws_eqNode.f k b l b l) true := by
  unfold laws_eqNode.f
  exact Evn.neg (by simp) (Evn.bind (eqEntryS_same l hl) (Evn.ret _))
theorem eqPageS_same (l : List Pg) (hl : l.length ≤ big) (hp : ∀ p ∈ l, p.f1.f1.length ≤ big) : Evn (fun k => laws_eqPageS.f k l l) true := by
  unfold laws_eqPageS.f
  refine Evn.pos rfl ?_
  refine down (P := fun i => Evn (fun k => laws_eqPageS.l0 k l l (i : Int)) true) l.length (fun i hi h => ?_) (Evn.step (fun k => by rw [laws_eqPageS.l0, if_neg (by omega)]) (Evn.ret _))
  refine Evn.step (fun k => by rw [laws_eqPageS.l0, if_pos (by omega), if_pos (by omega), if_pos (by omega), rdPg_at l i hi, wrap_succ hi hl]) ?_
  refine Evn.bind (a := true) ?_ (Evn.pos rfl h)
  unfold laws_eqPage.f
  exact Evn.neg (by simp) (Evn.bind (eqNode_same _ _ (hp _ (List.getElem_mem hi))) (Evn.ret _))
theorem eqBook_same (a : Int) (l : List Pg) (hl : l.length ≤ big) (hp : ∀ p ∈ l, p.f1.f1.length ≤ big) : Evn (fun k => laws_eqBook.f k a l a l) true := by
  unfold laws_eqBook.f
  exact Evn.pos rfl (Evn.bind (eqPageS_same l hl hp) (Evn.ret _))

/-- What a law over a book does: weigh it, make it, ask both, compare. -/
structure Small (l : List LPg) : Prop where
  len : l.length ≤ 1048576
  ent : ∀ p ∈ l, p.f1.f1.length ≤ 1048576
  sum : l.length + heap l ≤ 1048576
theorem Small.of (l : List LPg) (h : l.length + heap l ≤ 1048576) : Small l := ⟨by omega, fun p hp => by have := heap_mem l p hp; omega, h⟩
theorem Small.made (l : List LPg) (h : Small l) : (l.map toPg).length ≤ 1048576 ∧ ∀ p ∈ l.map toPg, p.f1.f1.length ≤ 1048576 := by
  refine ⟨by rw [List.length_map]; exact h.len, fun p hp => ?_⟩
  obtain ⟨q, hq, rfl⟩ := List.mem_map.mp hp
  show (q.f1.f1.map toE).length ≤ _
  rw [List.length_map]
  exact h.ent q hq
theorem big_of {n : Nat} (h : n ≤ 1048576) : n ≤ big := by unfold big; omega

end Go.Proofs.Ytngjaajcdbodeaa.Pure

/- The walk over a book ends, and each page that it gives is there, is used, and comes once. No condition. -/
namespace Go.Proofs.Ytngjaajcdbodeaa.Pure
open Go.RowKit Go.Proofs.Ytngjaajcdbodeaa.All Go.Proofs.YtngjaajcdbodeaaW.PrintWords Go.Proofs.YtngjaajcdbodeaaW.PrintLast
set_option linter.unusedVariables false

theorem nodup_sub : ∀ (l u : List Int), l.Nodup → (∀ x ∈ l, x ∈ u) → l.length ≤ u.length
  | [], u, _, _ => Nat.zero_le _
  | a :: l, u, hn, hs => by
    rw [List.nodup_cons] at hn
    have ha : a ∈ u := hs a (List.mem_cons_self ..)
    have h1 := nodup_sub l (u.erase a) hn.2 (fun x hx => by
      have hne : x ≠ a := fun e => hn.1 (e ▸ hx)
      exact (List.mem_erase_of_ne hne).2 (hs x (List.mem_cons_of_mem _ hx)))
    rw [List.length_erase_of_mem ha] at h1
    have h2 := List.length_pos_of_mem ha
    simp only [List.length_cons]
    omega
theorem nodup_full (l u : List Int) (hn : l.Nodup) (hs : ∀ x ∈ l, x ∈ u) (hl : u.length ≤ l.length) : ∀ x ∈ u, x ∈ l := by
  intro x hx
  by_cases h : x ∈ l
  · exact h
  · have := nodup_sub (x :: l) u (List.nodup_cons.2 ⟨h, hn⟩) (fun y hy => by
      rcases List.mem_cons.1 hy with e | e
      · exact e ▸ hx
      · exact hs y e)
    simp only [List.length_cons] at this
    omega
def upto (n : Nat) : List Int := (List.range n).map fun (i : Nat) => (i : Int)
theorem upto_len (n : Nat) : (upto n).length = n := by simp [upto]
theorem mem_upto {n : Nat} {x : Int} : x ∈ upto n ↔ 0 ≤ x ∧ x < n := by
  unfold upto
  rw [List.mem_map]
  constructor
  · rintro ⟨i, hi, rfl⟩
    rw [List.mem_range] at hi
    omega
  · intro h
    exact ⟨x.toNat, List.mem_range.2 (by omega), by omega⟩

/-- Pages that are there and used, each once. -/
def Once (ps : List Pg) (out : List Int) : Prop := out.Nodup ∧ ∀ i ∈ out, pgOk ps i
theorem Once.len {ps : List Pg} {out : List Int} (h : Once ps out) : out.length ≤ ps.length := by
  have := nodup_sub out (upto ps.length) h.1 (fun x hx => mem_upto.2 ⟨(h.2 x hx).1, (h.2 x hx).2.1⟩)
  rwa [upto_len] at this
theorem Once.nil (ps : List Pg) : Once ps [] := ⟨List.nodup_nil, fun _ h => absurd h (List.not_mem_nil)⟩
theorem Once.snoc {ps : List Pg} {out : List Int} (h : Once ps out) {i : Int} (hi : pgOk ps i) (hn : i ∉ out) : Once ps (out ++ [i]) := by
  refine ⟨?_, fun x hx => ?_⟩
  · rw [List.nodup_append]
    refine ⟨h.1, by simp, ?_⟩
    intro a ha b hb e
    rw [List.mem_singleton] at hb
    subst hb
    subst e
    exact hn ha
  · rcases List.mem_append.1 hx with hx | hx
    · exact h.2 x hx
    · rw [List.mem_singleton] at hx
      exact hx ▸ hi

theorem walkL_ends (ps : List Pg) (n : Nat) (ih : ∀ out, Once ps out → ps.length ≤ out.length + n → ∀ i, ∃ r, Evn (fun k => walkM k ps i out) r ∧ Once ps r ∧ out.length ≤ r.length) (b : Bool) (es : List En) (he : es.length ≤ 1048576) :
    ∀ d x : Nat, x + d = es.length → ∀ o, Once ps o → ps.length ≤ o.length + n → ∃ r, Evn (fun k => walkL k ps b es o (x : Int)) r ∧ Once ps r ∧ o.length ≤ r.length
  | 0, x, hx, o, ho, hn => ⟨o, Evn.step (fun k => by rw [walkL, if_neg (by omega)]) (Evn.ret _), ho, Nat.le_refl _⟩
  | d + 1, x, hx, o, ho, hn => by
    cases b with
    | true => exact ⟨o, Evn.step (fun k => by rw [walkL, if_pos (by omega), if_pos rfl]) (Evn.ret _), ho, Nat.le_refl _⟩
    | false =>
      obtain ⟨r1, h1, o1, l1⟩ := ih o ho hn (rd_T103 es (x : Int)).f0
      obtain ⟨r2, h2, o2, l2⟩ := walkL_ends ps n ih false es he d (x + 1) (by omega) r1 o1 (by omega)
      have hw : wrap64 ((x : Int) + 1) = ((x + 1 : Nat) : Int) := by
        unfold wrap64
        omega
      exact ⟨r2, Evn.step (fun k => by rw [walkL, if_pos (by omega), if_neg (by decide), if_pos (by omega), hw]) (Evn.bind h1 h2), o2, by omega⟩
theorem walk_ends (ps : List Pg) (hp : ps.length ≤ 1048576) (he : ∀ p ∈ ps, p.f1.f1.length ≤ 1048576) : ∀ n out, Once ps out → ps.length ≤ out.length + n → ∀ i, ∃ r, Evn (fun k => walkM k ps i out) r ∧ Once ps r ∧ out.length ≤ r.length := by
  intro n
  induction n with
  | zero =>
    intro out ho hn i
    have hl := ho.len
    by_cases h1 : pgOk ps i
    · by_cases h2 : i ∈ out
      · exact ⟨out, Evn.step (fun k => by rw [walkM, if_pos h1, if_pos (by omega), if_pos h2]) (Evn.ret _), ho, Nat.le_refl _⟩
      · have := (ho.snoc h1 h2).len
        rw [List.length_append, List.length_singleton] at this
        omega
    · exact ⟨out, Evn.step (fun k => by rw [walkM, if_neg h1]) (Evn.ret _), ho, Nat.le_refl _⟩
  | succ n ih =>
    intro out ho hn i
    have hl := ho.len
    by_cases h1 : pgOk ps i
    · by_cases h2 : i ∈ out
      · exact ⟨out, Evn.step (fun k => by rw [walkM, if_pos h1, if_pos (by omega), if_pos h2]) (Evn.ret _), ho, Nat.le_refl _⟩
      · have hes : (rd_T90 ps i).f1.f1.length ≤ 1048576 := by
          obtain ⟨m, rfl⟩ : ∃ m : Nat, i = (m : Int) := ⟨i.toNat, by have := h1.1; omega⟩
          have hm : m < ps.length := by have := h1.2.1; omega
          rw [rdPg_at ps m hm]
          exact he _ (List.getElem_mem hm)
        obtain ⟨r, hr, h3, h4⟩ := walkL_ends ps n ih _ _ hes _ 0 (Nat.zero_add _) (out ++ [i]) (ho.snoc h1 h2) (by rw [List.length_append, List.length_singleton]; omega)
        refine ⟨r, Evn.step (fun k => by rw [walkM, if_pos h1, if_pos (by omega), if_neg h2]; rfl) hr, h3, ?_⟩
        rw [List.length_append, List.length_singleton] at h4
        omega
    · exact ⟨out, Evn.step (fun k => by rw [walkM, if_neg h1]) (Evn.ret _), ho, Nat.le_refl _⟩
/-- What is reached from the root on. -/
theorem reach_ends (ps : List Pg) (hp : ps.length ≤ 1048576) (he : ∀ p ∈ ps, p.f1.f1.length ≤ 1048576) (i : Int) : ∃ r, Evn (fun k => walkM k ps i []) r ∧ Once ps r := by
  obtain ⟨r, h1, h2, _⟩ := walk_ends ps hp he ps.length [] (Once.nil ps) (by simp) i
  exact ⟨r, h1, h2⟩

end Go.Proofs.Ytngjaajcdbodeaa.Pure

/- What the walk over a book reaches: it is closed under the entries of inner pages, and each page but the root stands behind one that names it. No condition. -/
namespace Go.Proofs.Ytngjaajcdbodeaa.Pure
open Go.RowKit Go.Proofs.Ytngjaajcdbodeaa.All Go.Proofs.YtngjaajcdbodeaaW.PrintWords Go.Proofs.YtngjaajcdbodeaaW.PrintLast
set_option linter.unusedVariables false

/-- The pages that an inner page names. -/
def kids (ps : List Pg) (i : Int) : List Int := if (rd_T90 ps i).f1.f0 = true then [] else (rd_T90 ps i).f1.f1.map (fun e => e.f0)
/-- Each page is the root, or is named by one ahead of it. -/
def Led (ps : List Pg) (root : Int) (l : List Int) : Prop := ∀ a j b, l = a ++ j :: b → j = root ∨ ∃ p ∈ a, j ∈ kids ps p
theorem Led.nil (ps : List Pg) (root : Int) : Led ps root [] := fun a j b h => by simp at h
theorem Led.snoc {ps : List Pg} {root : Int} {l : List Int} {i : Int} (h : Led ps root l) (hi : i = root ∨ ∃ p ∈ l, i ∈ kids ps p) : Led ps root (l ++ [i]) := by
  intro a j b e
  rcases List.eq_nil_or_concat b with hb | ⟨b', x, hb⟩
  · subst hb
    have := List.append_inj' e rfl
    obtain ⟨rfl, h2⟩ := this
    injection h2 with h2
    subst h2
    exact hi
  · subst hb
    have e2 : l ++ [i] = (a ++ j :: b') ++ [x] := by rw [e]; simp
    have := List.append_inj' e2 rfl
    exact h a j b' this.1
theorem walkL_leaf' {k : Nat} {ps : List Pg} {es : List En} {o r : List Int} {x : Int} (h : walkL k ps true es o x = some r) : r = o := by
  cases k with
  | zero => simp [walkL] at h
  | succ k =>
    rw [walkL, if_pos rfl] at h
    split at h <;> exact (Option.some.inj h).symm
/-- What is new is closed. -/
def Shut (ps : List Pg) (out r : List Int) : Prop := ∀ j ∈ r, j ∈ out ∨ ∀ c ∈ kids ps j, pgOk ps c → c ∈ r
theorem walk_tree (ps : List Pg) (root : Int) (he : ∀ p ∈ ps, p.f1.f1.length ≤ 1048576) : ∀ k,
    (∀ i out r, Led ps root out → (i = root ∨ ∃ p ∈ out, i ∈ kids ps p) → walkM k ps i out = some r → Led ps root r ∧ (∀ j ∈ out, j ∈ r) ∧ (pgOk ps i → i ∈ r) ∧ Shut ps out r) ∧
    (∀ (j : Int) (out r : List Int) (x : Nat), Led ps root out → j ∈ out → pgOk ps j → (rd_T90 ps j).f1.f0 = false → walkL k ps false (rd_T90 ps j).f1.f1 out (x : Int) = some r →
      Led ps root r ∧ (∀ j ∈ out, j ∈ r) ∧ (∀ c ∈ (kids ps j).drop x, pgOk ps c → c ∈ r) ∧ Shut ps out r)
  | 0 => ⟨fun _ _ _ _ _ h => by simp [walkM] at h, fun _ _ _ _ _ _ _ _ h => by simp [walkL] at h⟩
  | k + 1 => by
    obtain ⟨ih1, ih2⟩ := walk_tree ps root he k
    constructor
    · intro i out r hl hi h
      rw [walkM] at h
      by_cases h1 : pgOk ps i
      · rw [if_pos h1] at h
        by_cases h3 : out.length < 17592186044415
        · rw [if_pos h3] at h
          by_cases h2 : i ∈ out
          · rw [if_pos h2] at h
            obtain rfl := Option.some.inj h
            exact ⟨hl, fun _ h => h, fun _ => h2, fun j hj => .inl hj⟩
          · rw [if_neg h2] at h
            have hl2 := hl.snoc hi
            have hin : i ∈ out ++ [i] := List.mem_append_right _ (List.mem_singleton.2 rfl)
            cases hb : (rd_T90 ps i).f1.f0 with
            | true =>
              rw [hb] at h
              obtain rfl := walkL_leaf' h
              refine ⟨hl2, fun j hj => List.mem_append_left _ hj, fun _ => hin, fun j hj => ?_⟩
              rcases List.mem_append.1 hj with hj | hj
              · exact .inl hj
              · rw [List.mem_singleton] at hj
                subst hj
                refine .inr (fun c hc => ?_)
                unfold kids at hc
                rw [if_pos hb] at hc
                exact absurd hc List.not_mem_nil
            | false =>
              rw [hb] at h
              obtain ⟨a1, a2, a3, a4⟩ := ih2 i (out ++ [i]) r 0 hl2 hin h1 hb h
              refine ⟨a1, fun j hj => a2 j (List.mem_append_left _ hj), fun _ => a2 i hin, fun j hj => ?_⟩
              rcases a4 j hj with hj2 | hj2
              · rcases List.mem_append.1 hj2 with hj2 | hj2
                · exact .inl hj2
                · rw [List.mem_singleton] at hj2
                  subst hj2
                  exact .inr (fun c hc => a3 c (by rwa [List.drop_zero]))
              · exact .inr hj2
        · rw [if_neg h3] at h
          exact absurd h (by simp)
      · rw [if_neg h1] at h
        obtain rfl := Option.some.inj h
        exact ⟨hl, fun _ h => h, fun h => absurd h h1, fun j hj => .inl hj⟩
    · intro j out r x hl hj hjo hb h
      have hes : (rd_T90 ps j).f1.f1.length ≤ 1048576 := by
        obtain ⟨m, rfl⟩ : ∃ m : Nat, j = (m : Int) := ⟨j.toNat, by have := hjo.1; omega⟩
        have hm : m < ps.length := by have := hjo.2.1; omega
        rw [rdPg_at ps m hm]
        exact he _ (List.getElem_mem hm)
      have hk : kids ps j = (rd_T90 ps j).f1.f1.map (fun e => e.f0) := by
        unfold kids
        rw [if_neg (by rw [hb]; decide)]
      rw [walkL] at h
      by_cases hx : x < (rd_T90 ps j).f1.f1.length
      · rw [if_pos (by omega), if_neg (by decide), if_pos (by omega)] at h
        obtain ⟨o, ho, h⟩ := Option.bind_eq_some_iff.mp h
        have hw : wrap64 ((x : Int) + 1) = ((x + 1 : Nat) : Int) := by
          unfold wrap64
          omega
        rw [hw] at h
        have hrd : (rd_T103 (rd_T90 ps j).f1.f1 (x : Int)).f0 = (kids ps j)[x]'(by rw [hk, List.length_map]; exact hx) := by
          have e0 : ∀ (l : List En) (h : x < l.length), (l.getD x z103).f0 = (l.map (fun e => e.f0))[x]'(by rw [List.length_map]; exact h) := fun l h => by
            rw [List.getD_eq_getElem?_getD, List.getElem?_eq_getElem h]
            simp
          simp only [hk]
          exact e0 _ hx
        rw [hrd] at ho
        have hmem : (kids ps j)[x]'(by rw [hk, List.length_map]; exact hx) ∈ kids ps j := List.getElem_mem _
        obtain ⟨a1, a2, a3, a4⟩ := ih1 _ out o hl (.inr ⟨j, hj, hmem⟩) ho
        obtain ⟨b1, b2, b3, b4⟩ := ih2 j o r (x + 1) a1 (a2 j hj) hjo hb h
        refine ⟨b1, fun q hq => b2 q (a2 q hq), fun c hc hco => ?_, fun q hq => ?_⟩
        · rw [List.drop_eq_getElem_cons (by rw [hk, List.length_map]; exact hx)] at hc
          rcases List.mem_cons.1 hc with hc | hc
          · subst hc
            exact b2 _ (a3 hco)
          · exact b3 c hc hco
        · rcases b4 q hq with hq | hq
          · rcases a4 q hq with hq | hq
            · exact .inl hq
            · exact .inr (fun c hc hco => b2 c (hq c hc hco))
          · exact .inr hq
      · rw [if_neg (by omega)] at h
        obtain rfl := Option.some.inj h
        refine ⟨hl, fun _ h => h, fun c hc => ?_, fun q hq => .inl hq⟩
        rw [List.drop_eq_nil_of_le (by rw [hk, List.length_map]; omega)] at hc
        exact absurd hc List.not_mem_nil
/-- What is reached from the root on. -/
structure Reached (ps : List Pg) (root : Int) (r : List Int) : Prop where
  once : Once ps r
  led : Led ps root r
  shut : ∀ j ∈ r, ∀ c ∈ kids ps j, pgOk ps c → c ∈ r
  root_mem : pgOk ps root → root ∈ r
  none : ¬ pgOk ps root → r = []
theorem reached (ps : List Pg) (hp : ps.length ≤ 1048576) (he : ∀ p ∈ ps, p.f1.f1.length ≤ 1048576) (i : Int) : ∃ r, Evn (fun k => walkM k ps i []) r ∧ Reached ps i r := by
  obtain ⟨r, ⟨K, hK⟩, h2⟩ := reach_ends ps hp he i
  obtain ⟨a1, a2, a3, a4⟩ := (walk_tree ps i he K).1 i [] r (Led.nil _ _) (.inl rfl) (hK K (Nat.le_refl _))
  refine ⟨r, ⟨K, hK⟩, h2, a1, fun j hj => ?_, a3, fun hno => ?_⟩
  · rcases a4 j hj with h | h
    · exact absurd h List.not_mem_nil
    · exact h
  · have h : walkM (K + 1) ps i [] = some r := hK (K + 1) (by omega)
    rw [walkM, if_neg hno] at h
    exact (Option.some.inj h).symm

end Go.Proofs.Ytngjaajcdbodeaa.Pure

/- Plain laws of the printed joins of boxes and of the bounds of nodes. No condition. -/
namespace Go.Proofs.Ytngjaajcdbodeaa.Pure
open Go.RowKit Go.Proofs.Ytngjaajcdbodeaa.All Go.Proofs.YtngjaajcdbodeaaW.PrintWords Go.Proofs.YtngjaajcdbodeaaW.PrintLast
set_option linter.unusedVariables false

theorem spec_Least_f (a b : Int) : spec_Least.f a b = some (min a b) := by
  unfold spec_Least.f
  split <;> (congr 1; omega)
theorem spec_Most_f (a b : Int) : spec_Most.f a b = some (max a b) := by
  unfold spec_Most.f
  split <;> (congr 1; omega)
theorem mn_eq (a b : Int) : mn a b = min a b := by
  unfold mn
  split <;> omega
theorem mx_eq (a b : Int) : mx a b = max a b := by
  unfold mx
  split <;> omega
theorem spec_Join_f (a b c d e f g h : Int) : spec_Join.f a b c d e f g h = some (min a e, min b f, max c g, max d h) := by
  unfold spec_Join.f
  simp only [spec_Least_f, spec_Most_f, Option.bind_some]
theorem impl_Join_f (a b c d e f g h : Int) : impl_Join.f a b c d e f g h = some (min a e, min b f, max c g, max d h) := by
  unfold impl_Join.f
  rw [mn_eq, mn_eq, mx_eq, mx_eq]
def tup (b : Bx) : Int × Int × Int × Int := (b.f0, b.f1, b.f2, b.f3)
def joinB (a b : Bx) : Bx := ⟨min a.f0 b.f0, min a.f1 b.f1, max a.f2 b.f2, max a.f3 b.f3⟩
def joinAll : List Bx → Bx
  | [] => ⟨0, 0, 0, 0⟩
  | b :: l => l.foldl joinB b
theorem joinB_self (b : Bx) : joinB b b = b := by
  unfold joinB
  simp
theorem getD_B (l : List Bx) (i : Nat) (h : i < l.length) : l.getD i z32 = l[i] := by rw [List.getD_eq_getElem?_getD, List.getElem?_eq_getElem h]; rfl
theorem spec_JoinAll_f (l : List Bx) (hl : l.length ≤ big) : Evn (fun k => spec_JoinAll.f k l) (tup (joinAll l)) := by
  unfold spec_JoinAll.f
  cases l with
  | nil => exact Evn.pos rfl (Evn.ret _)
  | cons b t =>
    refine Evn.neg (by simp only [List.length_cons]; omega) (Evn.pos (by simp only [List.length_cons]; omega) ?_)
    have hr : rd_T32 (b :: t) 0 = b := rfl
    rw [hr]
    have key : Evn (fun k => spec_JoinAll.l0 k (b :: t) ((0 + 1 : Nat) : Int) (tup ((t.take 0).foldl joinB b)).1 (tup ((t.take 0).foldl joinB b)).2.1 (tup ((t.take 0).foldl joinB b)).2.2.1 (tup ((t.take 0).foldl joinB b)).2.2.2) (tup (joinAll (b :: t))) := by
      refine down (P := fun i => Evn (fun k => spec_JoinAll.l0 k (b :: t) ((i + 1 : Nat) : Int) (tup ((t.take i).foldl joinB b)).1 (tup ((t.take i).foldl joinB b)).2.1 (tup ((t.take i).foldl joinB b)).2.2.1 (tup ((t.take i).foldl joinB b)).2.2.2) (tup (joinAll (b :: t)))) t.length (fun i hi h => ?_) ?_
      · refine Evn.step (fun k => by simp only [spec_JoinAll.l0]; rw [if_pos (by simp only [List.length_cons]; omega), if_pos (by omega), spec_Join_f]) ?_
        rw [wrap_succ (show i + 1 < (b :: t).length by simp only [List.length_cons]; omega) hl]
        refine Evn.same h (fun k => ?_)
        rw [rdB_at, List.getD_cons_succ, getD_B _ _ hi, List.take_succ_eq_append_getElem hi, List.foldl_append]
        rfl
      · refine Evn.step (fun k => by simp only [spec_JoinAll.l0]; rw [if_neg (by simp only [List.length_cons]; omega)]) ?_
        rw [List.take_length]
        exact Evn.ret _
    exact key
theorem impl_JoinAll_f (l : List Bx) (hl : l.length ≤ big) : Evn (fun k => impl_JoinAll.f k l) (tup (joinAll l)) := by
  unfold impl_JoinAll.f
  cases l with
  | nil => exact Evn.pos rfl (Evn.ret _)
  | cons b t =>
    refine Evn.neg (by simp only [List.length_cons]; omega) (Evn.pos (by simp only [List.length_cons]; omega) ?_)
    have hr : rd_T32 (b :: t) 0 = b := rfl
    rw [hr]
    have key : Evn (fun k => impl_JoinAll.l0 k (b :: t) ((b :: t).length : Int) ((0 : Nat) : Int) (tup (((b :: t).take 0).foldl joinB b)).1 (tup (((b :: t).take 0).foldl joinB b)).2.1 (tup (((b :: t).take 0).foldl joinB b)).2.2.1 (tup (((b :: t).take 0).foldl joinB b)).2.2.2) (tup (joinAll (b :: t))) := by
      refine down (P := fun i => Evn (fun k => impl_JoinAll.l0 k (b :: t) ((b :: t).length : Int) (i : Int) (tup (((b :: t).take i).foldl joinB b)).1 (tup (((b :: t).take i).foldl joinB b)).2.1 (tup (((b :: t).take i).foldl joinB b)).2.2.1 (tup (((b :: t).take i).foldl joinB b)).2.2.2) (tup (joinAll (b :: t)))) (b :: t).length (fun i hi h => ?_) ?_
      · refine Evn.step (fun k => by simp only [impl_JoinAll.l0]; rw [if_pos (by omega), if_pos (by omega), if_pos (by omega), impl_Join_f]) ?_
        rw [wrap_succ hi hl]
        refine Evn.same h (fun k => ?_)
        rw [rdB_at, getD_B _ _ hi, List.take_succ_eq_append_getElem hi, List.foldl_append]
        rfl
      · refine Evn.step (fun k => by simp only [impl_JoinAll.l0]; rw [if_neg (by omega)]) ?_
        rw [List.take_length, List.foldl_cons, joinB_self]
        exact Evn.ret _
    exact key
def boundE (l : List En) : Bx := joinAll (l.map (·.f1))
theorem getD_E (l : List En) (i : Nat) (h : i < l.length) : l.getD i z103 = l[i] := by rw [List.getD_eq_getElem?_getD, List.getElem?_eq_getElem h]; rfl
theorem spec_BoundOf_f (b : Bool) (l : List En) (hl : l.length ≤ 1048576) : Evn (fun k => spec_BoundOf.f k b l) (tup (boundE l)) := by
  unfold spec_BoundOf.f
  refine down (P := fun i => Evn (fun k => spec_BoundOf.l0 k ((l.take i).map (·.f1)) (i : Int) b l) (tup (boundE l))) l.length (fun i hi h => ?_) ?_
  · refine Evn.step (fun k => by simp only [spec_BoundOf.l0]; rw [if_pos (by omega), if_pos (by omega), if_pos (by rw [List.length_map, List.length_take]; omega)]) ?_
    rw [wrap_succ hi (by unfold big; omega)]
    refine Evn.same h (fun k => ?_)
    rw [rdE_at, getD_E _ _ hi, List.take_succ_eq_append_getElem hi, List.map_append]
    rfl
  · refine Evn.step (fun k => by simp only [spec_BoundOf.l0]; rw [if_neg (by omega)]) ?_
    rw [List.take_length]
    exact Evn.bind (spec_JoinAll_f _ (by rw [List.length_map]; unfold big; omega)) (Evn.ret _)
theorem impl_BoxesOf_f (l : List En) (hl : l.length ≤ 1048576) : Evn (fun k => impl_BoxesOf.f k l) (tup (boundE l)) := by
  unfold impl_BoxesOf.f
  refine down (P := fun i => Evn (fun k => impl_BoxesOf.l0 k ((l.take i).map (·.f1)) l (l.length : Int) (i : Int)) (tup (boundE l))) l.length (fun i hi h => ?_) ?_
  · refine Evn.step (fun k => by simp only [impl_BoxesOf.l0]; rw [if_pos (by omega), if_pos (by omega), if_pos (by omega), if_pos (by rw [List.length_map, List.length_take]; omega)]) ?_
    rw [wrap_succ hi (by unfold big; omega)]
    refine Evn.same h (fun k => ?_)
    rw [rdE_at, getD_E _ _ hi, List.take_succ_eq_append_getElem hi, List.map_append]
    rfl
  · refine Evn.step (fun k => by simp only [impl_BoxesOf.l0]; rw [if_neg (by omega)]) ?_
    rw [List.take_length]
    exact Evn.bind (impl_JoinAll_f _ (by rw [List.length_map]; unfold big; omega)) (Evn.ret _)

end Go.Proofs.Ytngjaajcdbodeaa.Pure

/- Plain law of the printed Tight, the program's and the reference's. No condition. -/
namespace Go.Proofs.Ytngjaajcdbodeaa.Pure
open Go.RowKit Go.Proofs.Ytngjaajcdbodeaa.All Go.Proofs.YtngjaajcdbodeaaW.PrintWords Go.Proofs.YtngjaajcdbodeaaW.PrintLast
set_option linter.unusedVariables false

/-- What NodeAt gives. -/
def nodeAt (l : List Pg) (i : Int) : Bool × List En := if 0 ≤ i ∧ i < l.length then ((rd_T90 l i).f1.f0, (rd_T90 l i).f1.f1) else (false, [])
theorem rdPg_len (l : List Pg) (hp : ∀ p ∈ l, p.f1.f1.length ≤ 1048576) (i : Int) (h0 : 0 ≤ i) (h1 : i < l.length) : (rd_T90 l i).f1.f1.length ≤ 1048576 := by
  obtain ⟨m, rfl⟩ : ∃ m : Nat, i = (m : Int) := ⟨i.toNat, by omega⟩
  have hm : m < l.length := by omega
  rw [rdPg_at l m hm]
  exact hp _ (List.getElem_mem hm)
theorem nodeAt_len (l : List Pg) (hp : ∀ p ∈ l, p.f1.f1.length ≤ 1048576) (i : Int) : (nodeAt l i).2.length ≤ 1048576 := by
  unfold nodeAt
  split
  · rename_i h
    exact rdPg_len l hp i h.1 h.2
  · simp
theorem spec_NodeAt_f (a : Int) (l : List Pg) (i : Int) (hl : l.length ≤ 1048576) (hp : ∀ p ∈ l, p.f1.f1.length ≤ 1048576) : spec_NodeAt.f a l i = some (nodeAt l i) := by
  unfold spec_NodeAt.f nodeAt
  rw [wrap_small (by omega) (by omega), in_range l.length (by omega) i]
  simp only [Option.bind_some]
  by_cases h : 0 ≤ i ∧ i < (l.length : Int)
  · have hlen := rdPg_len l hp i h.1 h.2
    rw [if_pos (decide_eq_true h), if_pos h.1, if_pos h.2, if_pos h]
    unfold spec_l5Copy.f
    simp only [Option.bind_some, List.nil_append, List.length_nil]
    rw [if_pos (by omega)]
    rfl
  · rw [if_neg (by simpa using h), if_neg h]
theorem impl_NodeAt_f (a : Int) (l : List Pg) (i : Int) (hl : l.length ≤ 1048576) (hp : ∀ p ∈ l, p.f1.f1.length ≤ 1048576) : impl_NodeAt.f a l i = some (nodeAt l i) := by
  unfold impl_NodeAt.f nodeAt impl_exists.f
  by_cases h0 : i ≥ 0
  · rw [if_pos h0]
    simp only [Option.bind_some]
    by_cases h1 : i < (l.length : Int)
    · have hlen := rdPg_len l hp i h0 h1
      rw [if_pos (decide_eq_true h1), if_pos (by omega), if_pos h1, if_pos ⟨h0, h1⟩]
      unfold impl_copyNode.f slices_Clone_Entry.f
      rw [if_pos (by omega)]
      rfl
    · rw [if_neg (by simpa using h1), if_neg (fun h => h1 h.2)]
  · rw [if_neg h0]
    simp only [Option.bind_some]
    rw [if_neg (by decide), if_neg (fun h => h0 h.1)]
theorem impl_BoundOf_f (b : Bool) (l : List En) (hl : l.length ≤ 1048576) : Evn (fun k => impl_BoundOf.f k b l) (tup (boundE l)) := by
  unfold impl_BoundOf.f
  exact Evn.bind (impl_BoxesOf_f _ hl) (Evn.ret _)
/-- An entry's rectangle is the bound of what it names. -/
def offB (l : List Pg) (e : En) : Bool := (!(e.f1.f0 == (tup (boundE (nodeAt l e.f0).2)).1) || (!(e.f1.f1 == (tup (boundE (nodeAt l e.f0).2)).2.1) || (!(e.f1.f2 == (tup (boundE (nodeAt l e.f0).2)).2.2.1) || (!(e.f1.f3 == (tup (boundE (nodeAt l e.f0).2)).2.2.2)))))
def pgEs (l : List Pg) (i : Int) : List En := if (rd_T90 l i).f1.f0 = true then [] else (rd_T90 l i).f1.f1
def tightB (l : List Pg) (r : List Int) : Bool := r.all fun i => (pgEs l i).all fun e => !offB l e
theorem rdInt' (r : List Int) (x : Nat) (h : x < r.length) : rd r (x : Int) = r[x] := by
  show r.getD x 0 = _
  rw [List.getD_eq_getElem?_getD, List.getElem?_eq_getElem h]
  rfl
theorem rdEn' (l : List En) (i : Nat) (h : i < l.length) : rd_T103 l (i : Int) = l[i] := getD_E l i h
theorem spec_tight (a : Int) (l : List Pg) (r : List Int) (hl : l.length ≤ 1048576) (hp : ∀ p ∈ l, p.f1.f1.length ≤ 1048576) (ho : ∀ i ∈ r, pgOk l i) (hr : r.length ≤ 1048576) :
    ∀ d x : Nat, x + d = r.length → Evn (fun k => spec_Tight.l0 k r (x : Int) a l) (tightB l (r.drop x))
  | 0, x, hx => by
    rw [List.drop_eq_nil_of_le (by omega)]
    exact Evn.step (fun k => by rw [spec_Tight.l0, if_neg (by omega)]; rfl) (Evn.ret _)
  | d + 1, x, hx => by
    have ih := spec_tight a l r hl hp ho hr d (x + 1) (by omega)
    have hxr : x < r.length := by omega
    have hg := ho _ (List.getElem_mem hxr)
    have hw : ∀ n : Nat, n ≤ 1048576 → wrap64 ((n : Int) + 1) = ((n + 1 : Nat) : Int) := fun n hn => by
      rw [wrap_small (by omega) (by omega)]
      omega
    rw [List.drop_eq_getElem_cons hxr]
    show Evn _ (((pgEs l r[x]).all fun e => !offB l e) && tightB l (r.drop (x + 1)))
    refine Evn.step (fun k => by rw [spec_Tight.l0, if_pos (by omega), if_pos (by omega), rdInt' r x hxr, if_pos hg.1, if_pos hg.2.1]) ?_
    have hlen := rdPg_len l hp _ hg.1 hg.2.1
    have hes : pgEs l r[x] = if (rd_T90 l r[x]).f1.f0 = true then [] else (rd_T90 l r[x]).f1.f1 := rfl
    rw [hes]
    generalize (rd_T90 l r[x]).f1.f1 = es at hlen ⊢
    generalize (rd_T90 l r[x]).f1.f0 = b
    cases b with
    | true =>
      have e0 : ∀ k, spec_Tight.j2 (k + 1) r (x : Int) 0 false a l true es = spec_Tight.l0 k r ((x + 1 : Nat) : Int) a l := fun k => by rw [spec_Tight.j2, if_neg (by decide), hw x (by omega)]
      have hb : Evn (fun k => spec_Tight.j2 k r (x : Int) 0 false a l true es) (tightB l (r.drop (x + 1))) := Evn.step e0 ih
      rw [if_pos rfl]
      simp only [List.all_nil, Bool.true_and]
      by_cases h0 : (0 : Int) < (es.length : Int)
      · exact Evn.step (fun k => by rw [spec_Tight.l1, if_pos h0]; rfl) hb
      · exact Evn.step (fun k => by rw [spec_Tight.l1, if_neg h0]) hb
    | false =>
      rw [if_neg (by decide)]
      have key : ∀ d y : Nat, y + d = es.length → Evn (fun k => spec_Tight.l1 k r (x : Int) (y : Int) a l false es) (((es.drop y).all fun e => !offB l e) && tightB l (r.drop (x + 1))) := by
        intro d
        induction d with
        | zero =>
          intro y hy
          rw [List.drop_eq_nil_of_le (by omega)]
          simp only [List.all_nil, Bool.true_and]
          refine Evn.step (fun k => by rw [spec_Tight.l1, if_neg (by omega)]) (Evn.step (fun k => ?_) ih)
          rw [spec_Tight.j2, if_neg (by decide), hw x (by omega)]
        | succ d ihd =>
          intro y hy
          have hyl : y < es.length := by omega
          rw [List.drop_eq_getElem_cons hyl]
          simp only [List.all_cons, Bool.and_assoc]
          refine Evn.step (fun k => by rw [spec_Tight.l1, if_pos (by omega)]) (Evn.step (fun k => by rw [spec_Tight.j2, if_pos (by decide), if_pos (by omega), if_pos (by omega), rdEn' es y hyl, spec_NodeAt_f a l _ hl hp]) ?_)
          refine Evn.bind (Evn.ret _) (Evn.bind (spec_BoundOf_f _ _ (nodeAt_len l hp _)) ?_)
          by_cases hoff : offB l es[y] = true
          · rw [hoff]
            exact Evn.pos hoff (Evn.ret _)
          · refine Evn.neg hoff ?_
            rw [Bool.not_eq_true] at hoff
            rw [hoff, hw y (by omega)]
            exact ihd (y + 1) (by omega)
      exact key es.length 0 (by omega)
theorem impl_tight (a : Int) (l : List Pg) (r : List Int) (hl : l.length ≤ 1048576) (hp : ∀ p ∈ l, p.f1.f1.length ≤ 1048576) (ho : ∀ i ∈ r, pgOk l i) (hr : r.length ≤ 1048576) :
    ∀ d x : Nat, x + d = r.length → Evn (fun k => impl_Tight.l0 k r (r.length : Int) (x : Int) a l) (tightB l (r.drop x))
  | 0, x, hx => by
    rw [List.drop_eq_nil_of_le (by omega)]
    exact Evn.step (fun k => by rw [impl_Tight.l0, if_neg (by omega)]; rfl) (Evn.ret _)
  | d + 1, x, hx => by
    have ih := impl_tight a l r hl hp ho hr d (x + 1) (by omega)
    have hxr : x < r.length := by omega
    have hg := ho _ (List.getElem_mem hxr)
    have hw : ∀ n : Nat, n ≤ 1048576 → wrap64 ((n : Int) + 1) = ((n + 1 : Nat) : Int) := fun n hn => by
      rw [wrap_small (by omega) (by omega)]
      omega
    rw [List.drop_eq_getElem_cons hxr]
    show Evn _ (((pgEs l r[x]).all fun e => !offB l e) && tightB l (r.drop (x + 1)))
    have hlen := rdPg_len l hp _ hg.1 hg.2.1
    by_cases hb : (rd_T90 l r[x]).f1.f0 = true
    · have hes : pgEs l r[x] = [] := if_pos hb
      rw [hes]
      simp only [List.all_nil, Bool.true_and]
      exact Evn.step (fun k => by rw [impl_Tight.l0, if_pos (by omega), if_pos (by omega), if_pos (by omega), rdInt' r x hxr, if_pos hg.1, if_pos hg.2.1, if_pos hb, hw x (by omega)]) ih
    · have hes : pgEs l r[x] = (rd_T90 l r[x]).f1.f1 := if_neg hb
      rw [hes]
      refine Evn.step (fun k => by rw [impl_Tight.l0, if_pos (by omega), if_pos (by omega), if_pos (by omega), rdInt' r x hxr, if_pos hg.1, if_pos hg.2.1, if_neg hb]) ?_
      generalize (rd_T90 l r[x]).f1.f1 = es at hlen ⊢
      have key : ∀ d y : Nat, y + d = es.length → Evn (fun k => impl_Tight.l1 k r (r.length : Int) (x : Int) es (es.length : Int) (y : Int) a l) (((es.drop y).all fun e => !offB l e) && tightB l (r.drop (x + 1))) := by
        intro d
        induction d with
        | zero =>
          intro y hy
          rw [List.drop_eq_nil_of_le (by omega)]
          simp only [List.all_nil, Bool.true_and]
          exact Evn.step (fun k => by rw [impl_Tight.l1, if_neg (by omega), hw x (by omega)]) ih
        | succ d ihd =>
          intro y hy
          have hyl : y < es.length := by omega
          rw [List.drop_eq_getElem_cons hyl]
          simp only [List.all_cons, Bool.and_assoc]
          refine Evn.step (fun k => by rw [impl_Tight.l1, if_pos (by omega), if_pos (by omega), if_pos (by omega), rdEn' es y hyl, impl_NodeAt_f a l _ hl hp]) ?_
          refine Evn.bind (Evn.ret _) (Evn.bind (impl_BoundOf_f _ _ (nodeAt_len l hp _)) ?_)
          by_cases hoff : offB l es[y] = true
          · rw [hoff]
            exact Evn.pos hoff (Evn.ret _)
          · refine Evn.neg hoff ?_
            rw [Bool.not_eq_true] at hoff
            rw [hoff, hw y (by omega)]
            exact ihd (y + 1) (by omega)
      exact key es.length 0 (by omega)
theorem tight_both (a : Int) (l : List Pg) (hl : l.length ≤ 1048576) (hp : ∀ p ∈ l, p.f1.f1.length ≤ 1048576) : ∃ b : Bool, Evn (fun k => spec_Tight.f k a l) b ∧ Evn (fun k => impl_Tight.f k a l) b := by
  obtain ⟨r, hw, ho⟩ := reach_ends l hl hp a
  have hrl := ho.len
  exact ⟨_, Evn.bind (a := r) hw (spec_tight a l r hl hp ho.2 (by omega) r.length 0 (by omega)), Evn.bind (Evn.bind (a := r) hw (Evn.ret _)) (impl_tight a l r hl hp ho.2 (by omega) r.length 0 (by omega))⟩

end Go.Proofs.Ytngjaajcdbodeaa.Pure

/- The program's Tight returns what the reference's returns, for all arguments. No condition. -/
namespace Go.Proofs.Ytngjaajcdbodeaa.Pure
open Go.RowKit Go.Proofs.Ytngjaajcdbodeaa.All Go.Proofs.Ytngjaajcdbodeaa.Op
set_option linter.unusedVariables false

theorem FnExactTight (y0 : Int × List LPg) (hg0 : good41 y0) : ∃ k, laws_FnExactTight.f k y0.1 y0.2 = some true := by
  obtain ⟨a, l⟩ := y0
  have hg : l.length ≤ 9223372036854775807 ∧ ∀ p ∈ l, p.f1.f1.length ≤ 9223372036854775807 := ⟨hg0.2.1, fun p hp => (hg0.2.2 p hp).2.2.1⟩
  apply Evn.some_k
  unfold laws_FnExactTight.f
  refine Evn.bind (szBook_f a l 1048576 (by omega) hg.1 hg.2) ?_
  by_cases h : (1048576 : Int) < l.length + heap l
  · rw [if_pos h]
    exact Evn.ret _
  · rw [if_neg h]
    refine Evn.neg (by omega) ?_
    have hs : Small l := Small.of l (by omega)
    have hm := hs.made
    obtain ⟨r, h1, h2⟩ := tight_both a (l.map toPg) hm.1 hm.2
    refine Evn.bind (toBook_f a l hs.len hs.ent) (Evn.bind h1 (Evn.bind (toBook_f a l hs.len hs.ent) (Evn.bind h2 (Evn.neg (by simp) ?_))))
    exact Evn.bind (toBook_f a l hs.len hs.ent) (Evn.bind (eqBook_same a _ (big_of hm.1) fun p hp => big_of (hm.2 p hp)) (Evn.ret _))

end Go.Proofs.Ytngjaajcdbodeaa.Pure
