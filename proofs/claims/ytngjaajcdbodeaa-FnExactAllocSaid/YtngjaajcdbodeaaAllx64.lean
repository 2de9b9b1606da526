-- PRINTED by print.py (a twelfth state) out of the translation. Not trusted: Lean checks it.
import Derived.Test.YtngjaajcdbodeaaAllx0
import Derived.Test.YtngjaajcdbodeaaAllx37
namespace Go.Proofs.Ytngjaajcdbodeaa.All
open Go.RowKit Go.Proofs.YtngjaajcdbodeaaW.PrintWords Go.Proofs.YtngjaajcdbodeaaW.PrintLast Go.Proofs.YtngjaajcdbodeaaW.PrintMore
attribute [local go_sem] max2_int min2_int max_two min_two max_three min_three max_four min_four   -- for this text's walks alone
set_option linter.unusedVariables false
set_option linter.unusedSimpArgs false

/-! ### spec_Alloc: function 34 -/
def spec_Alloc.l0 : Nat → Int → Int → List (S90) → Int → List (S90) → Option (Int × (List (S90)) × Int)
  | 0, _, _, _, _, _ => none
  | k + 1, x5, x455000, x455001, x461000, x461001 => if x5 < (x455001.length : Int) then (if 0 ≤ x5 then (if ((rd_T90 x455001 x5).f0 = true) then (spec_Alloc.l0 k (wrap64 (x5 + 1)) x455000 x455001 x461000 x461001) else (if x5 < (x461001.length : Int) then (some (x461000, (x461001.set (x5 : Int).toNat (⟨true, (⟨true, ([] : List (S103))⟩ : S54)⟩ : S90)), x5)) else (none))) else (none)) else (if (x455001.length : Int) ≥ 48 then (some (x461000, x461001, (-1))) else (if x461001.length < 3518437208883 then (some (x461000, (x461001 ++ [(⟨true, (⟨true, ([] : List (S103))⟩ : S54)⟩ : S90)]), (x455001.length : Int))) else (none)))
def spec_Alloc.f (k : Nat) (a0_0 : Int) (l0_1 : List (S90)) : Option (Int × (List (S90)) × Int) := (spec_l7Copy.f k a0_0 l0_1).bind fun bt456 => (spec_Alloc.l0 k 0 a0_0 l0_1 bt456.1 bt456.2)
theorem spec_Alloc.mono_l : ∀ k, (∀ y0 y1 y2 y3 y4, LeO (spec_Alloc.l0 k y0 y1 y2 y3 y4) (spec_Alloc.l0 (k + 1) y0 y1 y2 y3 y4))
  | 0 => fun _ _ _ _ _ r h => by simp [spec_Alloc.l0] at h
  | k + 1 => by
    have ih0 := spec_Alloc.mono_l k
    · intro y0 y1 y2 y3 y4
      unfold spec_Alloc.l0
      repeat' first
      | (with_reducible exact ih0 _ _ _ _ _)
      | (with_reducible exact spec_l7Copy.mono _ _ _)
      | (with_reducible exact LeO.refl _)
      | (with_reducible exact LeO.none _)
      | (with_reducible refine LeO.ite ?_ ?_)
      | (with_reducible refine LeO.bind ?_ (fun _ => ?_))
      | exact ih0 _ _ _ _ _
      | exact spec_l7Copy.mono _ _ _
      | exact LeO.none _
      | refine LeO.ite ?_ ?_
      | refine LeO.bind ?_ (fun _ => ?_)
theorem spec_Alloc.mono : ∀ a0 a1 k, LeO (spec_Alloc.f k a0 a1) (spec_Alloc.f (k + 1) a0 a1) := by
  intro a0 a1 k
  have ih0 := spec_Alloc.mono_l k
  unfold spec_Alloc.f
  repeat' first
      | (with_reducible exact ih0 _ _ _ _ _)
      | (with_reducible exact spec_l7Copy.mono _ _ _)
      | (with_reducible exact LeO.refl _)
      | (with_reducible exact LeO.none _)
      | (with_reducible refine LeO.ite ?_ ?_)
      | (with_reducible refine LeO.bind ?_ (fun _ => ?_))
      | exact ih0 _ _ _ _ _
      | exact spec_l7Copy.mono _ _ _
      | exact LeO.none _
      | refine LeO.ite ?_ ?_
      | refine LeO.bind ?_ (fun _ => ?_)
set_option maxHeartbeats 8000000 in
set_option maxRecDepth 100000 in
theorem spec_Alloc.calls (k : Nat) (a0_0 : Int) (A0_1 : Option Addr) (c0_1 : Nat) (l0_1 : List (S90)) (r1 : Int) (r2 : List (S90)) (r3 : Int) (w : World) (hr0_1 : Kd.C k90 w A0_1 l0_1.length l0_1) (hc0_1 : l0_1.length ≤ c0_1) (h : spec_Alloc.f k a0_0 l0_1 = some (r1, r2, r3)) :
    Calls Try.prog 34 #[.agg #[.int .i64 a0_0, .slice A0_1 l0_1.length c0_1]] w fun e w' => ∃ v1_ : Value, e = .returned (.tuple #[.agg #[.int .i64 r1, v1_], .int .i64 r3]) ∧ Kd.S k90 90 w' w.heap.size (fun _ => True) v1_ r2 ∧ Below w.heap.size w w' := by
  have hu49 := Try.underlying49
  have hu54 := Try.underlying54
  have hu90 := Try.underlying90
  have HR0_1 := Aside0.mk hr0_1
  have HC0_1 := Aside0.mk hc0_1
  clear hr0_1 hc0_1
  have HB := Aside0.mk (Below.refl w.heap.size w)
  have H : ((spec_l7Copy.f k a0_0 l0_1).bind fun bt456 => (spec_Alloc.l0 k 0 a0_0 l0_1 bt456.1 bt456.2)) = some (r1, r2, r3) := h
  clear h
  replace H := Option.bind_eq_some_iff.mp H
  obtain ⟨⟨t456, t457⟩, A20, H⟩ := H
  replace H : (spec_Alloc.l0 k 0 a0_0 l0_1 t456 t457) = some (r1, r2, r3) := H
  have A2 := Aside0.mk A20
  clear A20
  have H' := Aside0.mk H
  clear H
  go_enter Try.func34, Try.ntmps34
  go_wp2_with (first | ((with_reducible refine gate_dst (N := 1) rfl ?_); refine box_event ?hg (N := 1) ?hd (cs := #[.int .i64 a0_0, .slice A0_1 l0_1.length c0_1]) (t := 49) ?hr ?_; (case hd => rfl); (case hg => rfl); (case hr => first | (go_simp; done) | (go_simp; rfl)); intro gb454 hg w3 hbox hb; have n0_ := Aside0.mk (below_step (by repeat (first | (with_reducible first | exact HB.out | apply below_alloc | apply pw_below_drewN | apply below_drew1) | exact HB.out)) hb); have n1_ := Aside0.mk (hbox); have n2_ := Aside0.mk ((by rw [hg]; exact (below_size (by repeat (first | (with_reducible first | exact HB.out | apply below_alloc | apply pw_below_drewN | apply below_drew1) | exact HB.out))) : w.heap.size ≤ gb454)); have n3_ := Aside0.mk ((by rw [hg]; exact (below_size (by repeat (first | (with_reducible first | exact HB.out | apply below_alloc | apply pw_below_drewN | apply below_drew1) | exact HB.out))) : w.heap.size ≤ gb454)); clear HB; have HB := n0_; have BK454 := n1_; have GW454 := n2_; have GE454 := n3_; clear n0_ n1_ n2_ n3_; clear hb hbox hg) | ((with_reducible refine gate_dst (N := 2) rfl ?_); refine box_event ?hg (N := 2) ?hd (cs := #[.int .i64 0, .slice none 0 0]) (t := 49) ?hr ?_; (case hd => rfl); (case hg => rfl); (case hr => first | (go_simp; done) | (go_simp; rfl)); intro gb455 hg w4 hbox hb; have n0_ := Aside0.mk (blk_below (g := gb454) (o := .cells #[.int .i64 a0_0, .slice A0_1 l0_1.length c0_1] 49 (0, 0)) (by (with_reducible repeat (first | refine blk_drewN ?_ _ | refine blk_drew ?_ | refine blk_alloc ?_ _)); exact BK454.out) hb); have n1_ := Aside0.mk (below_step (by repeat (first | (with_reducible first | exact HB.out | apply below_alloc | apply pw_below_drewN | apply below_drew1 | refine below_set ?_ GE454.out) | exact HB.out)) hb); have n2_ := Aside0.mk (hbox); have n3_ := Aside0.mk ((by rw [hg]; exact (below_size (by repeat (first | (with_reducible first | exact HB.out | apply below_alloc | apply pw_below_drewN | apply below_drew1 | refine below_set ?_ GE454.out) | exact HB.out))) : w.heap.size ≤ gb455)); have n4_ := Aside0.mk ((by rw [hg]; exact (below_size (by repeat (first | (with_reducible first | exact HB.out | apply below_alloc | apply pw_below_drewN | apply below_drew1 | refine below_set ?_ GE454.out) | exact HB.out))) : w.heap.size ≤ gb455)); have n5_ := Aside0.mk ((by rw [hg]; exact Nat.ne_of_lt (blk_lt (g := gb454) (o := .cells #[.int .i64 a0_0, .slice A0_1 l0_1.length c0_1] 49 (0, 0)) (by (with_reducible repeat (first | refine blk_drewN ?_ _ | refine blk_drew ?_ | refine blk_alloc ?_ _)); exact BK454.out)) : gb454 ≠ gb455)); have n6_ := Aside0.mk ((by rw [hg]; exact Nat.ne_of_gt (blk_lt (g := gb454) (o := .cells #[.int .i64 a0_0, .slice A0_1 l0_1.length c0_1] 49 (0, 0)) (by (with_reducible repeat (first | refine blk_drewN ?_ _ | refine blk_drew ?_ | refine blk_alloc ?_ _)); exact BK454.out)) : gb455 ≠ gb454)); clear BK454; clear HB; have BK454 := n0_; have HB := n1_; have BK455 := n2_; have GW455 := n3_; have GE455 := n4_; have NB454_455 := n5_; have NB455_454 := n6_; clear n0_ n1_ n2_ n3_ n4_ n5_ n6_; clear hb hbox hg; have hnb5 := NB454_455.out; have hnc5 := NB455_454.out; have hcz6_0 : w4.cell? ⟨gb454, 0, none⟩ = some (.int .i64 a0_0) := (blk_cell BK454.out 0).trans rfl; have hcz6_1 : w4.cell? ⟨gb454, 1, none⟩ = some (.slice A0_1 l0_1.length c0_1) := (blk_cell BK454.out 1).trans rfl; have hfz6_0 := blk_frozen BK454.out 0; have hfz6_1 := blk_frozen BK454.out 1) | ((with_reducible refine gate_callee (f := 71) rfl ?_); refine goesL_ (some 7) rfl rfl Try.func71 (by kernel_rfl) rfl #[.agg #[.int .i64 a0_0, .slice A0_1 l0_1.length c0_1]] rfl (by (try simp only [List.map_toArray, List.map_cons, List.map_nil]); first | done | rfl | (simp only [List.length_drop, List.length_take]; rfl)) ?_; (with_reducible refine (spec_l7Copy.calls k a0_0 _ _ l0_1 t456 t457 _ ?side1 ?side2 A2.out).mono ?_); (case side1 => repeat (first | exact (Kd.C_below HR0_1.out HB.out) | (with_reducible refine Kd.C_alloc ?_ _) | (with_reducible refine Kd.C_drewN ?_ _) | (with_reducible refine Kd.C_drew ?_))); (case side2 => exact HC0_1.out); rintro e w7 ⟨v458, rfl, ho0, hb⟩; refine ⟨_, rfl, ?_⟩; have n0_ := Aside0.mk (Kd.S_lower ho0 (below_size (by repeat (first | (with_reducible first | exact HB.out | apply below_alloc | apply pw_below_drewN | apply below_drew1 | refine below_set ?_ GE454.out | refine below_set ?_ GE455.out) | exact HB.out)))); have n1_ := Aside0.mk (blk_below (g := gb454) (o := .cells #[.int .i64 a0_0, .slice A0_1 l0_1.length c0_1] 49 (0, 0)) (by (with_reducible repeat (first | refine blk_drewN ?_ _ | refine blk_drew ?_ | refine blk_alloc ?_ _)); exact BK454.out) hb); have n2_ := Aside0.mk (blk_below (g := gb455) (o := .cells #[.int .i64 0, .slice none 0 0] 49 (0, 0)) (by (with_reducible repeat (first | refine blk_drewN ?_ _ | refine blk_drew ?_ | refine blk_alloc ?_ _)); exact BK455.out) hb); have n3_ := Aside0.mk (below_step (by repeat (first | (with_reducible first | exact HB.out | apply below_alloc | apply pw_below_drewN | apply below_drew1 | refine below_set ?_ GE454.out | refine below_set ?_ GE455.out) | exact HB.out)) hb); clear BK454; clear BK455; clear HB; have HO459 := n0_; have BK454 := n1_; have BK455 := n2_; have HB := n3_; clear n0_ n1_ n2_ n3_; (try clear hb); (try clear hb2); (try clear hk); (try clear hi); (try clear ho0)) | ((with_reducible refine gate_dst (N := 4) rfl ?_); refine box_event ?hg (N := 4) ?hd (cs := #[.int .i64 0, .slice none 0 0]) (t := 49) ?hr ?_; (case hd => rfl); (case hg => rfl); (case hr => first | (go_simp; done) | (go_simp; rfl)); intro gb460 hg w8 hbox hb; have n0_ := Aside0.mk (Kd.S_below (by (with_reducible repeat (first | apply Kd.S_alloc | apply Kd.S_drewN | apply Kd.S_drew)); exact HO459.out) hb); have n1_ := Aside0.mk (blk_below (g := gb454) (o := .cells #[.int .i64 a0_0, .slice A0_1 l0_1.length c0_1] 49 (0, 0)) (by (with_reducible repeat (first | refine blk_drewN ?_ _ | refine blk_drew ?_ | refine blk_alloc ?_ _)); exact BK454.out) hb); have n2_ := Aside0.mk (blk_below (g := gb455) (o := .cells #[.int .i64 0, .slice none 0 0] 49 (0, 0)) (by (with_reducible repeat (first | refine blk_drewN ?_ _ | refine blk_drew ?_ | refine blk_alloc ?_ _)); exact BK455.out) hb); have n3_ := Aside0.mk (below_step (by repeat (first | (with_reducible first | exact HB.out | apply below_alloc | apply pw_below_drewN | apply below_drew1 | refine below_set ?_ GE454.out | refine below_set ?_ GE455.out) | exact HB.out)) hb); have n4_ := Aside0.mk (hbox); have n5_ := Aside0.mk ((by rw [hg]; exact (below_size (by repeat (first | (with_reducible first | exact HB.out | apply below_alloc | apply pw_below_drewN | apply below_drew1 | refine below_set ?_ GE454.out | refine below_set ?_ GE455.out) | exact HB.out))) : w.heap.size ≤ gb460)); have n6_ := Aside0.mk ((by rw [hg]; exact (below_size (by repeat (first | (with_reducible first | exact HB.out | apply below_alloc | apply pw_below_drewN | apply below_drew1 | refine below_set ?_ GE454.out | refine below_set ?_ GE455.out) | exact HB.out))) : w.heap.size ≤ gb460)); have n7_ := Aside0.mk ((by rw [hg]; exact Nat.ne_of_lt (blk_lt (g := gb454) (o := .cells #[.int .i64 a0_0, .slice A0_1 l0_1.length c0_1] 49 (0, 0)) (by (with_reducible repeat (first | refine blk_drewN ?_ _ | refine blk_drew ?_ | refine blk_alloc ?_ _)); exact BK454.out)) : gb454 ≠ gb460)); have n8_ := Aside0.mk ((by rw [hg]; exact Nat.ne_of_gt (blk_lt (g := gb454) (o := .cells #[.int .i64 a0_0, .slice A0_1 l0_1.length c0_1] 49 (0, 0)) (by (with_reducible repeat (first | refine blk_drewN ?_ _ | refine blk_drew ?_ | refine blk_alloc ?_ _)); exact BK454.out)) : gb460 ≠ gb454)); have n9_ := Aside0.mk ((by rw [hg]; exact Nat.ne_of_lt (blk_lt (g := gb455) (o := .cells #[.int .i64 0, .slice none 0 0] 49 (0, 0)) (by (with_reducible repeat (first | refine blk_drewN ?_ _ | refine blk_drew ?_ | refine blk_alloc ?_ _)); exact BK455.out)) : gb455 ≠ gb460)); have n10_ := Aside0.mk ((by rw [hg]; exact Nat.ne_of_gt (blk_lt (g := gb455) (o := .cells #[.int .i64 0, .slice none 0 0] 49 (0, 0)) (by (with_reducible repeat (first | refine blk_drewN ?_ _ | refine blk_drew ?_ | refine blk_alloc ?_ _)); exact BK455.out)) : gb460 ≠ gb455)); clear HO459; clear BK454; clear BK455; clear HB; have HO459 := n0_; have BK454 := n1_; have BK455 := n2_; have HB := n3_; have BK460 := n4_; have GW460 := n5_; have GE460 := n6_; have NB454_460 := n7_; have NB460_454 := n8_; have NB455_460 := n9_; have NB460_455 := n10_; clear n0_ n1_ n2_ n3_ n4_ n5_ n6_ n7_ n8_ n9_ n10_; clear hb hbox hg; have hnb9 := NB460_454.out; have hnc9 := NB454_460.out; have hnb10 := NB460_455.out; have hnc10 := NB455_460.out; have hcz11_0 : w8.cell? ⟨gb460, 0, none⟩ = some (.int .i64 0) := (blk_cell BK460.out 0).trans rfl; have hcz11_1 : w8.cell? ⟨gb460, 1, none⟩ = some (.slice none 0 0) := (blk_cell BK460.out 1).trans rfl; have hfz11_0 := blk_frozen BK460.out 0; have hfz11_1 := blk_frozen BK460.out 1; obtain ⟨Ao12, co12, eo12⟩ := Kd.S_slice HO459.out; subst eo12))
  go_loopg [5] k (fun kq v5 w' => ∃ (x5_1 : Int) (x456000_1 : Int) (x461001_1 : List (S90)) (u461001 : Value), v5 = .int .i64 x5_1 ∧ Aside0 (spec_Alloc.l0 kq x5_1 a0_0 l0_1 t456 x461001_1 = some (r1, r2, r3)) ∧ Aside0 (kq ≤ k) ∧ Aside0 (Kd.S k90 90 w' w.heap.size (fun _ => True) u461001 x461001_1) ∧ Aside0 (w'.heap[gb454]? = some (.cells #[.int .i64 a0_0, (.slice A0_1 l0_1.length c0_1)] 49 (0, 0))) ∧ Aside0 (w'.heap[gb455]? = some (.cells #[.int .i64 x456000_1, (.slice none 0 0)] 49 (0, 0))) ∧ Aside0 (w'.heap[gb460]? = some (.cells #[.int .i64 t456, u461001] 49 (0, 0))) ∧ Aside0 (Below w.heap.size w w'))
  case atStart => exact ⟨(0), (0), (t457), (.slice Ao12 t457.length co12), (by first | rfl | (simp; done) | (simp [*]; done)), H', ⟨Nat.le_refl _⟩, ⟨by (with_reducible repeat (first | apply Kd.S_alloc | apply Kd.S_drewN | apply Kd.S_drew)); exact Kd.S_mono (Kd.S_far (p := ⟨gb460, 1, none⟩) (Kd.S_far (p := ⟨gb460, 0, none⟩) (Kd.S_types HO459.out BK460.out (by decide)) (fun _ hk => hk.2) (.int .i64 t456)) (fun _ hk => hk.2) (.slice Ao12 t457.length co12)) (fun _ hk => trivial)⟩, ⟨by (with_reducible repeat (first | refine blk_drewN ?_ _ | refine blk_drew ?_ | refine blk_alloc ?_ _)); refine blk_far ?_ NB454_460.out _; (with_reducible repeat (first | refine blk_drewN ?_ _ | refine blk_drew ?_ | refine blk_alloc ?_ _)); refine blk_far ?_ NB454_460.out _; (with_reducible repeat (first | refine blk_drewN ?_ _ | refine blk_drew ?_ | refine blk_alloc ?_ _)); exact BK454.out⟩, ⟨by (with_reducible repeat (first | refine blk_drewN ?_ _ | refine blk_drew ?_ | refine blk_alloc ?_ _)); refine blk_far ?_ NB455_460.out _; (with_reducible repeat (first | refine blk_drewN ?_ _ | refine blk_drew ?_ | refine blk_alloc ?_ _)); refine blk_far ?_ NB455_460.out _; (with_reducible repeat (first | refine blk_drewN ?_ _ | refine blk_drew ?_ | refine blk_alloc ?_ _)); exact BK455.out⟩, ⟨by (with_reducible repeat (first | refine blk_drewN ?_ _ | refine blk_drew ?_ | refine blk_alloc ?_ _)); refine blk_put (cs := #[.int .i64 t456, .slice none 0 0]) ?_ 1 _ rfl; (with_reducible repeat (first | refine blk_drewN ?_ _ | refine blk_drew ?_ | refine blk_alloc ?_ _)); refine blk_put (cs := #[.int .i64 0, .slice none 0 0]) ?_ 0 _ rfl; (with_reducible repeat (first | refine blk_drewN ?_ _ | refine blk_drew ?_ | refine blk_alloc ?_ _)); exact BK460.out⟩, ⟨by repeat (first | (with_reducible first | exact HB.out | apply below_alloc | apply pw_below_drewN | apply below_drew1 | refine below_set ?_ GE454.out | refine below_set ?_ GE455.out | refine below_set ?_ GE460.out) | exact HB.out)⟩⟩
  case round =>
    clear H'
    try clear c1
    try clear p2
    try clear c3
    try clear c5
    try clear c7
    try clear c9
    try clear c10
    try clear hcz11_0
    try clear hcz11_1
    try clear hcz6_0
    try clear hcz6_1
    try clear hfz11_0
    try clear hfz11_1
    try clear hfz6_0
    try clear hfz6_1
    obtain ⟨x5_1, x456000_1, x461001_1, u461001, rfl, HA, HK1, HO_461001, BK454, BK455, BK460, HB⟩ := hrel
    cases gk with
    | zero => exact absurd HA.out (by simp [spec_Alloc.l0])
    | succ k1 =>
      have H := HA.out
      clear HA
      simp only [spec_Alloc.l0] at H
      by_cases c13 : x5_1 < (l0_1.length : Int)
      · rw [if_pos c13] at H
        have c13b0 : decide (x5_1 < (l0_1.length : Int)) = true := decide_eq_true c13
        clear c13
        by_cases c14 : 0 ≤ x5_1
        · rw [if_pos c14] at H
          have c14b0 : decide (0 ≤ x5_1) = true := decide_eq_true c14
          clear c14
          obtain ⟨bq15, hbq15⟩ : ∃ b_ : Bool, b_ = ((rd_T90 l0_1 x5_1).f0) := ⟨_, rfl⟩
          replace H : (if (bq15 = true) then (spec_Alloc.l0 k1 (wrap64 (x5_1 + 1)) a0_0 l0_1 t456 x461001_1) else (if x5_1 < (x461001_1.length : Int) then (some (t456, (x461001_1.set (x5_1 : Int).toNat (⟨true, (⟨true, ([] : List (S103))⟩ : S54)⟩ : S90)), x5_1)) else (none))) = some (r1, r2, r3) := by rw [← hbq15] at H; exact H
          have Nbq15 := Aside0.mk hbq15
          clear hbq15
          by_cases c16 : (bq15 = true)
          · subst c16
            have H1 : (spec_Alloc.l0 k1 (wrap64 (x5_1 + 1)) a0_0 l0_1 t456 x461001_1) = some (r1, r2, r3) := by rw [if_pos rfl] at H; exact H
            clear H
            have H := H1
            clear H1
            have H' := Aside0.mk H
            clear H
            have hnb17 := NB454_455.out
            have hnc17 := NB455_454.out
            have hnb18 := NB454_460.out
            have hnc18 := NB460_454.out
            have hcz19_0 : wr.cell? ⟨gb454, 0, none⟩ = some (.int .i64 a0_0) := (blk_cell BK454.out 0).trans rfl
            have hcz19_1 : wr.cell? ⟨gb454, 1, none⟩ = some (.slice A0_1 l0_1.length c0_1) := (blk_cell BK454.out 1).trans rfl
            have hfz19_0 := blk_frozen BK454.out 0
            have hfz19_1 := blk_frozen BK454.out 1
            have p461 : 0 ≤ (x5_1 : Int) := of_decide_eq_true (by first | (with_reducible assumption) | assumption)
            have q461 : x5_1 < (l0_1.length : Int) := of_decide_eq_true (by first | (with_reducible assumption) | assumption)
            obtain ⟨ad461, A461_2, c461_2, e461, hx461_0, hx461_1, hx461_2, hl461_2, hi461_2⟩ := at_T90 HR0_1.out x5_1 p461 q461
            (try rw [← Nbq15.out] at hx461_0)
            (try rw [← Nbq15.out] at hx461_1)
            cases e461
            replace hx461_0 := (HB.out.cell (World.block_lt_of_cell? w _ hx461_0)).trans hx461_0
            replace hx461_1 := (HB.out.cell (World.block_lt_of_cell? w _ hx461_1)).trans hx461_1
            replace hx461_2 := (HB.out.cell (World.block_lt_of_cell? w _ hx461_2)).trans hx461_2
            have HR461_2 := Aside0.mk hi461_2
            have HC461_2 := Aside0.mk hl461_2
            clear hi461_2 hl461_2
            replace p461 := eq_true p461
            replace q461 := eq_true q461
            go_wp2
            go_roundg k1
            case measure => have := HK1.out; omega
            case rel => exact ⟨(wrap64 (x5_1 + 1)), (x456000_1), (x461001_1), (u461001), (by first | rfl | (simp; done) | (simp [*]; done)), H', ⟨by have := HK1.out; omega⟩, ⟨by (with_reducible repeat (first | apply Kd.S_alloc | apply Kd.S_drewN | apply Kd.S_drew)); exact HO_461001.out⟩, ⟨by (with_reducible repeat (first | refine blk_drewN ?_ _ | refine blk_drew ?_ | refine blk_alloc ?_ _)); exact BK454.out⟩, ⟨by (with_reducible repeat (first | refine blk_drewN ?_ _ | refine blk_drew ?_ | refine blk_alloc ?_ _)); exact BK455.out⟩, ⟨by (with_reducible repeat (first | refine blk_drewN ?_ _ | refine blk_drew ?_ | refine blk_alloc ?_ _)); exact BK460.out⟩, ⟨by repeat (first | (with_reducible first | exact HB.out | apply below_alloc | apply pw_below_drewN | apply below_drew1 | refine below_set ?_ GE454.out | refine below_set ?_ GE455.out | refine below_set ?_ GE460.out) | exact HB.out)⟩⟩
          · replace c16 := Bool.eq_false_iff.mpr c16
            subst c16
            have H1 : (if x5_1 < (x461001_1.length : Int) then (some (t456, (x461001_1.set (x5_1 : Int).toNat (⟨true, (⟨true, ([] : List (S103))⟩ : S54)⟩ : S90)), x5_1)) else (none)) = some (r1, r2, r3) := by rw [if_neg (show ¬ (false = true) by decide)] at H; exact H
            clear H
            have H := H1
            clear H1
            by_cases c20 : x5_1 < (x461001_1.length : Int)
            · rw [if_pos c20] at H
              have c20b0 : decide (x5_1 < (x461001_1.length : Int)) = true := decide_eq_true c20
              clear c20
              obtain ⟨y462, hy462⟩ : ∃ y_ : List (S90), y_ = (x461001_1.set (x5_1 : Int).toNat (⟨true, (⟨true, ([] : List (S103))⟩ : S54)⟩ : S90)) := ⟨_, rfl⟩
              replace H : (some (t456, y462, x5_1)) = some (r1, r2, r3) := by first | (rw [hy462]; with_reducible exact H) | (have H2_ := (Option.bind_some _ _).symm.trans H; rw [hy462]; with_reducible exact H2_) | (have H2_ := (Option.bind_some _ _).symm.trans H; with_reducible exact H2_) | with_reducible exact H | (rw [hy462]; exact H) | exact H
              have Ny462 := Aside0.mk hy462
              clear hy462
              simp only [Option.some.injEq, Prod.mk.injEq] at H
              obtain ⟨rfl, rfl, rfl⟩ := H
              have hnb22 := NB454_455.out
              have hnc22 := NB455_454.out
              have hnb23 := NB454_460.out
              have hnc23 := NB460_454.out
              have hcz24_0 : wr.cell? ⟨gb454, 0, none⟩ = some (.int .i64 a0_0) := (blk_cell BK454.out 0).trans rfl
              have hcz24_1 : wr.cell? ⟨gb454, 1, none⟩ = some (.slice A0_1 l0_1.length c0_1) := (blk_cell BK454.out 1).trans rfl
              have hfz24_0 := blk_frozen BK454.out 0
              have hfz24_1 := blk_frozen BK454.out 1
              have p461 : 0 ≤ (x5_1 : Int) := of_decide_eq_true (by first | (with_reducible assumption) | assumption)
              have q461 : x5_1 < (l0_1.length : Int) := of_decide_eq_true (by first | (with_reducible assumption) | assumption)
              obtain ⟨ad461, A461_2, c461_2, e461, hx461_0, hx461_1, hx461_2, hl461_2, hi461_2⟩ := at_T90 HR0_1.out x5_1 p461 q461
              (try rw [← Nbq15.out] at hx461_0)
              (try rw [← Nbq15.out] at hx461_1)
              cases e461
              replace hx461_0 := (HB.out.cell (World.block_lt_of_cell? w _ hx461_0)).trans hx461_0
              replace hx461_1 := (HB.out.cell (World.block_lt_of_cell? w _ hx461_1)).trans hx461_1
              replace hx461_2 := (HB.out.cell (World.block_lt_of_cell? w _ hx461_2)).trans hx461_2
              have HR461_2 := Aside0.mk hi461_2
              have HC461_2 := Aside0.mk hl461_2
              clear hi461_2 hl461_2
              replace p461 := eq_true p461
              replace q461 := eq_true q461
              have hnb25 := NB460_455.out
              have hnc25 := NB455_460.out
              have hcz26_0 : wr.cell? ⟨gb460, 0, none⟩ = some (.int .i64 t456) := (blk_cell BK460.out 0).trans rfl
              have hcz26_1 : wr.cell? ⟨gb460, 1, none⟩ = some (u461001) := (blk_cell BK460.out 1).trans rfl
              have hfz26_0 := blk_frozen BK460.out 0
              have hfz26_1 := blk_frozen BK460.out 1
              have p21 : 0 ≤ (x5_1 : Int) := of_decide_eq_true (by first | (with_reducible assumption) | assumption)
              have q21 : (x5_1 : Int) < ((x461001_1.length : Int) : Int) := of_decide_eq_true (by first | (with_reducible assumption) | assumption)
              obtain ⟨go21, co21, eo21, gb21, gl21, cl21, HG21⟩ := Kd.S_form HO_461001.out (by omega)
              (first | cases eo21 | (injection eo21 with ea_ en_ ec_; (first | subst ea_ | (injection ea_ with ea_; subst ea_)); subst ec_; clear en_))
              have GB21 := Aside0.mk gb21
              have GG21 := Aside0.mk HG21
              clear gb21 gl21 HG21
              obtain ⟨_, ce21, hcl21, hM21, hcc21, hfr21, _, _⟩ := Kd.S_elem HO_461001.out z90 (x5_1 : Int) p21 q21
              obtain ⟨ve21_2, rfl, ge21_2⟩ := k90_openM hM21
              have hx21_0 : wr.cell? ⟨go21, (x5_1 : Int).toNat * 3, none⟩ = some (.bool ((rd_T90 x461001_1 x5_1).f0)) := hcc21 0 _ rfl
              have hx21_1 : wr.cell? ⟨go21, (x5_1 : Int).toNat * 3 + 1, none⟩ = some (.bool ((rd_T90 x461001_1 x5_1).f1.f0)) := hcc21 1 _ rfl
              have hx21_2 : wr.cell? ⟨go21, (x5_1 : Int).toNat * 3 + 2, none⟩ = some (ve21_2) := hcc21 2 _ rfl
              have hf21_0 : wr.frozen? ⟨go21, (x5_1 : Int).toNat * 3, none⟩ = false := hfr21 0
              have hf21_1 : wr.frozen? ⟨go21, (x5_1 : Int).toNat * 3 + 1, none⟩ = false := hfr21 1
              have hf21_2 : wr.frozen? ⟨go21, (x5_1 : Int).toNat * 3 + 2, none⟩ = false := hfr21 2
              clear hcl21 hcc21 hfr21 hM21
              replace p21 := eq_true p21
              replace q21 := eq_true q21
              have HX27 := Aside0.mk (show Kd.S k90 90 wr w.heap.size (fun k_ => ((fun _ => True)) k_ ∧ ¬ ((fun _ => False)) k_) (.slice (some ⟨go21, 0, none⟩) x461001_1.length co21) x461001_1 from (by (with_reducible repeat (first | apply Kd.S_alloc | apply Kd.S_drewN | apply Kd.S_drew)); exact Kd.S_mono HO_461001.out (fun k_ hk => ⟨trivial, fun e_ => e_⟩)))
              obtain ⟨oki27, ce27, hcl27, hM27, hcc27, hfr27, hoki27, hH27⟩ := Kd.S_elem HX27.out z90 (x5_1 : Int) (of_decide_eq_true (by first | (with_reducible assumption) | assumption)) (by have h_ : (x5_1 : Int) < ((x461001_1.length : Int) : Int) := of_decide_eq_true (by first | (with_reducible assumption) | assumption); first | exact h_ | (have e_ := (Kd.S_reads' HO_461001.out).1; omega) | simpa using h_)
              obtain ⟨ve27_2, rfl, ge27_2⟩ := k90_openM hM27
              have HP27 := Kd.S_seg hH27 (of_decide_eq_true (by first | (with_reducible assumption) | assumption)) (by have h_ : (x5_1 : Int) < ((x461001_1.length : Int) : Int) := of_decide_eq_true (by first | (with_reducible assumption) | assumption); first | exact h_ | (have e_ := (Kd.S_reads' HO_461001.out).1; omega) | simpa using h_) (seg := [.bool true, .bool true, .slice none 0 0]) (j := 0) (show 3 ≤ 3 from by decide) (x' := (⟨true, (⟨true, ([] : List (S103))⟩ : S54)⟩ : S90)) (k90_mkM _ _ _ (⟨true, (⟨true, ([] : List (S103))⟩ : S54)⟩ : S90) (Kd.R_nil _ _ _ _ _)) (fun _ hk => hk) (fun k_ hk_ => hk_.elim)
              have hx27_0 := hcc27 0 _ rfl
              (try simp only [show (k90).sz = 3 from rfl, Nat.mul_one, Nat.add_zero] at hx27_0)
              have hf27_0 := hfr27 0
              (try simp only [show (k90).sz = 3 from rfl, Nat.mul_one, Nat.add_zero] at hf27_0)
              have hx27_1 := hcc27 1 _ rfl
              (try simp only [show (k90).sz = 3 from rfl, Nat.mul_one, Nat.add_zero] at hx27_1)
              have hf27_1 := hfr27 1
              (try simp only [show (k90).sz = 3 from rfl, Nat.mul_one, Nat.add_zero] at hf27_1)
              have hx27_2 := hcc27 2 _ rfl
              (try simp only [show (k90).sz = 3 from rfl, Nat.mul_one, Nat.add_zero] at hx27_2)
              have hf27_2 := hfr27 2
              (try simp only [show (k90).sz = 3 from rfl, Nat.mul_one, Nat.add_zero] at hf27_2)
              clear hcl27 hcc27 hfr27 hM27 hoki27 hH27
              go_wp2_with (first | ((with_reducible refine gate_store (t := 90) (p := 27) rfl ?_); refine store_event (t := 90) (p := 27) (v := ?vo_w28) (w1 := (((wr.setCell ⟨go21, (x5_1 : Int).toNat * 3, none⟩ (.bool true)).setCell ⟨go21, (x5_1 : Int).toNat * 3 + 1, none⟩ (.bool true)).setCell ⟨go21, (x5_1 : Int).toNat * 3 + 2, none⟩ (.slice none 0 0))) ?hg ?ho ?hn ?hr ?_; (case ho => rfl); (case hg => rfl); (case hn => rfl); (case hr => first | (go_simp; done) | (go_simp; rfl)); intro w28 hw; have hg : wr.grownBy w28 (some go21) := (by rw [hw]; exact HP27.2); have hp_ : Kd.S k90 90 w28 w.heap.size (fun _ => True) (.slice (some ⟨go21, 0, none⟩) x461001_1.length co21) y462 := (by rw [hw, Ny462.out]; exact HP27.1); clear HP27; have n0_ := Aside0.mk (hp_); have n1_ := Aside0.mk (blk_grown (g := gb454) (o := .cells #[.int .i64 a0_0, .slice (some ad461) l0_1.length c0_1] 49 (0, 0)) (by (with_reducible repeat (first | refine blk_drewN ?_ _ | refine blk_drew ?_ | refine blk_alloc ?_ _)); exact BK454.out) hg (Kd.S_ne HO_461001.out BK454.out (by decide))); have n2_ := Aside0.mk (blk_grown (g := gb455) (o := .cells #[.int .i64 x456000_1, .slice none 0 0] 49 (0, 0)) (by (with_reducible repeat (first | refine blk_drewN ?_ _ | refine blk_drew ?_ | refine blk_alloc ?_ _)); exact BK455.out) hg (Kd.S_ne HO_461001.out BK455.out (by decide))); have n3_ := Aside0.mk (blk_grown (g := gb460) (o := .cells #[.int .i64 t456, .slice (some ⟨go21, 0, none⟩) x461001_1.length co21] 49 (0, 0)) (by (with_reducible repeat (first | refine blk_drewN ?_ _ | refine blk_drew ?_ | refine blk_alloc ?_ _)); exact BK460.out) hg (Kd.S_ne HO_461001.out BK460.out (by decide))); have n4_ := Aside0.mk ((by rw [hw]; exact below_set (below_set (below_set (HB.out) GB21.out) GB21.out) GB21.out : Below w.heap.size w w28)); clear HO_461001; clear BK454; clear BK455; clear BK460; clear HB; have HO_461001 := n0_; have BK454 := n1_; have BK455 := n2_; have BK460 := n3_; have HB := n4_; clear n0_ n1_ n2_ n3_ n4_; clear hg hw hp_; have hcz29_0 : w28.cell? ⟨gb460, 0, none⟩ = some (.int .i64 t456) := (blk_cell BK460.out 0).trans rfl; have hcz29_1 : w28.cell? ⟨gb460, 1, none⟩ = some (.slice (some ⟨go21, 0, none⟩) x461001_1.length co21) := (blk_cell BK460.out 1).trans rfl; have hfz29_0 := blk_frozen BK460.out 0; have hfz29_1 := blk_frozen BK460.out 1; have hcz30_0 : w28.cell? ⟨gb455, 0, none⟩ = some (.int .i64 x456000_1) := (blk_cell BK455.out 0).trans rfl; have hcz30_1 : w28.cell? ⟨gb455, 1, none⟩ = some (.slice none 0 0) := (blk_cell BK455.out 1).trans rfl; have hfz30_0 := blk_frozen BK455.out 0; have hfz30_1 := blk_frozen BK455.out 1))
              refine bodyPost_ret (results_ct rfl _ _ gb455 49 #[.int .i64 t456, .slice (some ⟨go21, 0, none⟩) x461001_1.length co21] (0, 0) _ rfl (by (with_reducible repeat (first | refine blk_drewN ?_ _ | refine blk_drew ?_ | refine blk_alloc ?_ _)); refine blk_put (cs := #[.int .i64 t456, .slice none 0 0]) ?_ 1 _ rfl; (with_reducible repeat (first | refine blk_drewN ?_ _ | refine blk_drew ?_ | refine blk_alloc ?_ _)); refine blk_put (cs := #[.int .i64 x456000_1, .slice none 0 0]) ?_ 0 _ rfl; (with_reducible repeat (first | refine blk_drewN ?_ _ | refine blk_drew ?_ | refine blk_alloc ?_ _)); exact BK455.out) Try.underlying49 rfl (by kernel_rfl)) rfl ?_
              exact ⟨_, by first | rfl | (simp [errW_none, errW_some] <;> rfl) | (simp [*, errW_none, errW_some] <;> rfl), by (with_reducible repeat (first | apply Kd.S_alloc | apply Kd.S_drewN | apply Kd.S_drew)); exact Kd.S_mono (Kd.S_far (p := ⟨gb455, 1, none⟩) (Kd.S_far (p := ⟨gb455, 0, none⟩) (Kd.S_types HO_461001.out BK455.out (by decide)) (fun _ hk => hk.2) (.int .i64 t456)) (fun _ hk => hk.2) (.slice (some ⟨go21, 0, none⟩) x461001_1.length co21)) (fun _ hk => trivial), by repeat (first | (with_reducible first | exact HB.out | apply below_alloc | apply pw_below_drewN | apply below_drew1 | refine below_set ?_ GE454.out | refine below_set ?_ GE455.out | refine below_set ?_ GE460.out) | exact HB.out)⟩
            · rw [if_neg c20] at H
              exact absurd H (by simp)
        · rw [if_neg c14] at H
          exact absurd H (by simp)
      · rw [if_neg c13] at H
        have c13b0 : decide (x5_1 < (l0_1.length : Int)) = false := decide_eq_false c13
        clear c13
        by_cases c31 : (l0_1.length : Int) ≥ 48
        · rw [if_pos c31] at H
          have c31b0 : decide (48 ≤ (l0_1.length : Int)) = true := decide_eq_true c31
          have c31b1 : decide (48 ≤ l0_1.length) = true := decide_eq_true (by omega)
          clear c31
          simp only [Option.some.injEq, Prod.mk.injEq] at H
          obtain ⟨rfl, rfl, rfl⟩ := H
          have hnb32 := NB454_455.out
          have hnc32 := NB455_454.out
          have hnb33 := NB454_460.out
          have hnc33 := NB460_454.out
          have hcz34_0 : wr.cell? ⟨gb454, 0, none⟩ = some (.int .i64 a0_0) := (blk_cell BK454.out 0).trans rfl
          have hcz34_1 : wr.cell? ⟨gb454, 1, none⟩ = some (.slice A0_1 l0_1.length c0_1) := (blk_cell BK454.out 1).trans rfl
          have hfz34_0 := blk_frozen BK454.out 0
          have hfz34_1 := blk_frozen BK454.out 1
          have hnb35 := NB460_455.out
          have hnc35 := NB455_460.out
          have hcz36_0 : wr.cell? ⟨gb460, 0, none⟩ = some (.int .i64 t456) := (blk_cell BK460.out 0).trans rfl
          have hcz36_1 : wr.cell? ⟨gb460, 1, none⟩ = some (u461001) := (blk_cell BK460.out 1).trans rfl
          have hfz36_0 := blk_frozen BK460.out 0
          have hfz36_1 := blk_frozen BK460.out 1
          have hcz37_0 : wr.cell? ⟨gb455, 0, none⟩ = some (.int .i64 x456000_1) := (blk_cell BK455.out 0).trans rfl
          have hcz37_1 : wr.cell? ⟨gb455, 1, none⟩ = some (.slice none 0 0) := (blk_cell BK455.out 1).trans rfl
          have hfz37_0 := blk_frozen BK455.out 0
          have hfz37_1 := blk_frozen BK455.out 1
          obtain ⟨Ao38, co38, eo38⟩ := Kd.S_slice HO_461001.out
          subst eo38
          go_wp2
          refine bodyPost_ret (results_ct rfl _ _ gb455 49 #[.int .i64 t456, .slice Ao38 x461001_1.length co38] (0, 0) _ rfl (by (with_reducible repeat (first | refine blk_drewN ?_ _ | refine blk_drew ?_ | refine blk_alloc ?_ _)); refine blk_put (cs := #[.int .i64 t456, .slice none 0 0]) ?_ 1 _ rfl; (with_reducible repeat (first | refine blk_drewN ?_ _ | refine blk_drew ?_ | refine blk_alloc ?_ _)); refine blk_put (cs := #[.int .i64 x456000_1, .slice none 0 0]) ?_ 0 _ rfl; (with_reducible repeat (first | refine blk_drewN ?_ _ | refine blk_drew ?_ | refine blk_alloc ?_ _)); exact BK455.out) Try.underlying49 rfl (by kernel_rfl)) rfl ?_
          exact ⟨_, by first | rfl | (simp [errW_none, errW_some] <;> rfl) | (simp [*, errW_none, errW_some] <;> rfl), by (with_reducible repeat (first | apply Kd.S_alloc | apply Kd.S_drewN | apply Kd.S_drew)); exact Kd.S_mono (Kd.S_far (p := ⟨gb455, 1, none⟩) (Kd.S_far (p := ⟨gb455, 0, none⟩) (Kd.S_types HO_461001.out BK455.out (by decide)) (fun _ hk => hk.2) (.int .i64 t456)) (fun _ hk => hk.2) (.slice Ao38 x461001_1.length co38)) (fun _ hk => trivial), by repeat (first | (with_reducible first | exact HB.out | apply below_alloc | apply pw_below_drewN | apply below_drew1 | refine below_set ?_ GE454.out | refine below_set ?_ GE455.out | refine below_set ?_ GE460.out) | exact HB.out)⟩
        · rw [if_neg c31] at H
          have c31b0 : decide (48 ≤ (l0_1.length : Int)) = false := decide_eq_false c31
          have c31b1 : decide (48 ≤ l0_1.length) = false := decide_eq_false (by omega)
          clear c31
          by_cases c39 : x461001_1.length < 3518437208883
          · rw [if_pos c39] at H
            have LMc39 := Aside0.mk c39
            clear c39
            obtain ⟨y463, hy463⟩ : ∃ y_ : List (S90), y_ = (x461001_1 ++ [(⟨true, (⟨true, ([] : List (S103))⟩ : S54)⟩ : S90)]) := ⟨_, rfl⟩
            replace H : (some (t456, y463, (l0_1.length : Int))) = some (r1, r2, r3) := by first | (rw [hy463]; with_reducible exact H) | (have H2_ := (Option.bind_some _ _).symm.trans H; rw [hy463]; with_reducible exact H2_) | (have H2_ := (Option.bind_some _ _).symm.trans H; with_reducible exact H2_) | with_reducible exact H | (rw [hy463]; exact H) | exact H
            have Ny463 := Aside0.mk hy463
            clear hy463
            simp only [Option.some.injEq, Prod.mk.injEq] at H
            obtain ⟨rfl, rfl, rfl⟩ := H
            have hnb40 := NB454_455.out
            have hnc40 := NB455_454.out
            have hnb41 := NB454_460.out
            have hnc41 := NB460_454.out
            have hcz42_0 : wr.cell? ⟨gb454, 0, none⟩ = some (.int .i64 a0_0) := (blk_cell BK454.out 0).trans rfl
            have hcz42_1 : wr.cell? ⟨gb454, 1, none⟩ = some (.slice A0_1 l0_1.length c0_1) := (blk_cell BK454.out 1).trans rfl
            have hfz42_0 := blk_frozen BK454.out 0
            have hfz42_1 := blk_frozen BK454.out 1
            have hnb43 := NB460_455.out
            have hnc43 := NB455_460.out
            have hcz44_0 : wr.cell? ⟨gb460, 0, none⟩ = some (.int .i64 t456) := (blk_cell BK460.out 0).trans rfl
            have hcz44_1 : wr.cell? ⟨gb460, 1, none⟩ = some (u461001) := (blk_cell BK460.out 1).trans rfl
            have hfz44_0 := blk_frozen BK460.out 0
            have hfz44_1 := blk_frozen BK460.out 1
            try go_wp2_with (first | ((with_reducible refine gate_builtin (b := .append) (xs := #[.tmp 36, .tmp 39]) rfl ?_); at_builtin; refine Kd.S_append k90 (w0 := w) w.heap.size rfl (.tmp 36) (.tmp 39) 47 90 (.agg #[(.bool false), (.bool false), (.slice none 0 0)]) 40 rfl Try.underlying47 info90 rfl (by decide) (by omega) u461001 x461001_1 (⟨true, (⟨true, ([] : List (S103))⟩ : S54)⟩ : S90) [.bool true, .bool true, .slice none 0 0] (fun _ => True) (fun _ => False) rfl rfl ?aP (fun k_ hk_ => hk_.elim) ?aF ?aO ?aB ?aS ?aL ?_; (case aP => exact k90_mkM _ _ _ (⟨true, (⟨true, ([] : List (S103))⟩ : S54)⟩ : S90) (Kd.R_nil _ _ _ _ _)); (case aB => exact (by repeat (first | (with_reducible first | exact HB.out | apply below_alloc | apply pw_below_drewN | apply below_drew1 | refine below_set ?_ GE454.out | refine below_set ?_ GE455.out | refine below_set ?_ GE460.out) | exact HB.out))); (case aF => exact (fun _ _ => trivial)); (case aO => exact (by (with_reducible repeat (first | apply Kd.S_alloc | apply Kd.S_drewN | apply Kd.S_drew)); exact Kd.S_mono HO_461001.out (fun k_ hk => ⟨trivial, fun e_ => e_⟩))); (case aS => exact (below_size (by repeat (first | (with_reducible first | exact HB.out | apply below_alloc | apply pw_below_drewN | apply below_drew1 | refine below_set ?_ GE454.out | refine below_set ?_ GE455.out | refine below_set ?_ GE460.out) | exact HB.out)))); (case aL => have := LMc39.out; omega); intro v464 w45 ho hb hg hat; rw [← Ny463.out] at ho; have n0_ := Aside0.mk (blk_grown (g := gb454) (o := .cells #[.int .i64 a0_0, .slice A0_1 l0_1.length c0_1] 49 (0, 0)) (by (with_reducible repeat (first | refine blk_drewN ?_ _ | refine blk_drew ?_ | refine blk_alloc ?_ _)); exact BK454.out) hg (Kd.S_ne HO_461001.out BK454.out (by decide))); have n1_ := Aside0.mk (blk_grown (g := gb455) (o := .cells #[.int .i64 x456000_1, .slice none 0 0] 49 (0, 0)) (by (with_reducible repeat (first | refine blk_drewN ?_ _ | refine blk_drew ?_ | refine blk_alloc ?_ _)); exact BK455.out) hg (Kd.S_ne HO_461001.out BK455.out (by decide))); have n2_ := Aside0.mk (blk_grown (g := gb460) (o := .cells #[.int .i64 t456, u461001] 49 (0, 0)) (by (with_reducible repeat (first | refine blk_drewN ?_ _ | refine blk_drew ?_ | refine blk_alloc ?_ _)); exact BK460.out) hg (Kd.S_ne HO_461001.out BK460.out (by decide))); have n3_ := Aside0.mk (hb); have n4_ := Aside0.mk (ho); clear BK454; clear BK455; clear BK460; clear HB; clear HO_461001; have BK454 := n0_; have BK455 := n1_; have BK460 := n2_; have HB := n3_; have HO465 := n4_; clear n0_ n1_ n2_ n3_ n4_; clear ho hb hg hat; obtain ⟨Ao46, co46, eo46⟩ := Kd.S_slice HO465.out; subst eo46; have hcz47_0 : w45.cell? ⟨gb460, 0, none⟩ = some (.int .i64 t456) := (blk_cell BK460.out 0).trans rfl; have hcz47_1 : w45.cell? ⟨gb460, 1, none⟩ = some (u461001) := (blk_cell BK460.out 1).trans rfl; have hfz47_0 := blk_frozen BK460.out 0; have hfz47_1 := blk_frozen BK460.out 1))
            have n0_ : Aside0 (Kd.S k90 90 (w45.setCell ⟨gb460, 1, none⟩ (.slice Ao46 y463.length co46)) w.heap.size (fun _ => True) (.slice Ao46 y463.length co46) y463) := ⟨by (with_reducible repeat (first | apply Kd.S_alloc | apply Kd.S_drewN | apply Kd.S_drew)); exact Kd.S_mono (Kd.S_far (p := ⟨gb460, 1, none⟩) (Kd.S_types HO465.out BK460.out (by decide)) (fun _ hk => hk.2) (.slice Ao46 y463.length co46)) (fun _ hk => trivial)⟩
            have n1_ : Aside0 ((w45.setCell ⟨gb460, 1, none⟩ (.slice Ao46 y463.length co46)).heap[gb454]? = some (.cells #[.int .i64 a0_0, .slice A0_1 l0_1.length c0_1] 49 (0, 0))) := ⟨by (with_reducible repeat (first | refine blk_drewN ?_ _ | refine blk_drew ?_ | refine blk_alloc ?_ _)); refine blk_far ?_ NB454_460.out _; (with_reducible repeat (first | refine blk_drewN ?_ _ | refine blk_drew ?_ | refine blk_alloc ?_ _)); exact BK454.out⟩
            have n2_ : Aside0 ((w45.setCell ⟨gb460, 1, none⟩ (.slice Ao46 y463.length co46)).heap[gb455]? = some (.cells #[.int .i64 x456000_1, .slice none 0 0] 49 (0, 0))) := ⟨by (with_reducible repeat (first | refine blk_drewN ?_ _ | refine blk_drew ?_ | refine blk_alloc ?_ _)); refine blk_far ?_ NB455_460.out _; (with_reducible repeat (first | refine blk_drewN ?_ _ | refine blk_drew ?_ | refine blk_alloc ?_ _)); exact BK455.out⟩
            have n3_ : Aside0 ((w45.setCell ⟨gb460, 1, none⟩ (.slice Ao46 y463.length co46)).heap[gb460]? = some (.cells #[.int .i64 t456, .slice Ao46 y463.length co46] 49 (0, 0))) := ⟨by (with_reducible repeat (first | refine blk_drewN ?_ _ | refine blk_drew ?_ | refine blk_alloc ?_ _)); refine blk_put (cs := #[.int .i64 t456, u461001]) ?_ 1 _ rfl; (with_reducible repeat (first | refine blk_drewN ?_ _ | refine blk_drew ?_ | refine blk_alloc ?_ _)); exact BK460.out⟩
            have n4_ : Aside0 (Below w.heap.size w (w45.setCell ⟨gb460, 1, none⟩ (.slice Ao46 y463.length co46))) := ⟨by repeat (first | (with_reducible first | exact HB.out | apply below_alloc | apply pw_below_drewN | apply below_drew1 | refine below_set ?_ GE454.out | refine below_set ?_ GE455.out | refine below_set ?_ GE460.out) | exact HB.out)⟩
            (try clear HO465)
            (try clear BK454)
            (try clear BK455)
            (try clear BK460)
            (try clear HB)
            generalize (w45.setCell ⟨gb460, 1, none⟩ (.slice Ao46 y463.length co46)) = w48 at n0_ n1_ n2_ n3_ n4_ ⊢
            have HO465 := n0_
            have BK454 := n1_
            have BK455 := n2_
            have BK460 := n3_
            have HB := n4_
            clear n0_ n1_ n2_ n3_ n4_
            have n0_ := Aside0.mk (Kd.S_drew HO465.out)
            have n1_ := Aside0.mk (blk_drew BK454.out)
            have n2_ := Aside0.mk (blk_drew BK455.out)
            have n3_ := Aside0.mk (blk_drew BK460.out)
            have n4_ := Aside0.mk (below_drew1 HB.out)
            clear HO465
            clear BK454
            clear BK455
            clear BK460
            clear HB
            have HO465 := n0_
            have BK454 := n1_
            have BK455 := n2_
            have BK460 := n3_
            have HB := n4_
            clear n0_ n1_ n2_ n3_ n4_
            refine start_ (n := 6) (S := fun w' => w'.cell? ⟨gb460, 0, none⟩ = some (.int .i64 t456) ∧ w'.cell? ⟨gb460, 1, none⟩ = some (.slice Ao46 y463.length co46) ∧ w'.cell? ⟨gb454, 0, none⟩ = some (.int .i64 a0_0) ∧ w'.cell? ⟨gb454, 1, none⟩ = some (.slice A0_1 l0_1.length c0_1)) (ds := []) #[false, false, false, false, false, false] (by kernel_rfl) rfl rfl ⟨(blk_cell BK460.out 0).trans rfl, (blk_cell BK460.out 1).trans rfl, (blk_cell BK454.out 0).trans rfl, (blk_cell BK454.out 1).trans rfl⟩ (fun hHeld => ?_)
            generalize w48.drew = w49 at HO465 BK454 BK455 BK460 HB hHeld ⊢
            refine pure_ (i := 1) (N := some 43) (v := ?_) (a' := ?_) #[false, true, false, false, false, false] rfl rfl (by kernel_rfl) (fun _ _ _ h => h) (Or.inl ⟨by rfl, ?_⟩) ?_ ?_
            rotate_left
            · intro w'
              go_simp
              with_reducible rfl
            rotate_left
            · simp only [Act.put, List.setIfInBounds_toArray, List.set_cons_zero, List.set_cons_succ, i64_w, i32_w]
              rfl
            refine take_ (i := 0) (N := some 42) (v := ?_) (a' := ?_) #[true, true, false, false, false, false] rfl rfl (by kernel_rfl) (fun _ _ _ h => h) (Or.inl ⟨by rfl, ?_⟩) hHeld ?_ ?_
            rotate_left
            · rintro w' ⟨s0, s1, s2, s3⟩
              go_simp
              with_reducible rfl
            rotate_left
            · simp only [Act.put, List.setIfInBounds_toArray, List.set_cons_zero, List.set_cons_succ, i64_w, i32_w]
              rfl
            refine take_ (i := 2) (N := some 44) (v := ?_) (a' := ?_) #[true, true, true, false, false, false] rfl rfl (by kernel_rfl) (fun _ _ _ h => h) (Or.inl ⟨by rfl, ?_⟩) hHeld ?_ ?_
            rotate_left
            · rintro w' ⟨s0, s1, s2, s3⟩
              go_simp
              with_reducible rfl
            rotate_left
            · simp only [Act.put, List.setIfInBounds_toArray, List.set_cons_zero, List.set_cons_succ, i64_w, i32_w]
              rfl
            refine pure_ (i := 3) (N := some 45) (v := ?_) (a' := ?_) #[true, true, true, true, false, false] rfl rfl (by kernel_rfl) (fun _ _ _ h => h) (Or.inl ⟨by rfl, ?_⟩) ?_ ?_
            rotate_left
            · intro w'
              go_simp
              with_reducible rfl
            rotate_left
            · simp only [Act.put, List.setIfInBounds_toArray, List.set_cons_zero, List.set_cons_succ, i64_w, i32_w]
              rfl
            refine one_ (i := 4) (N := none) #[true, true, true, true, true, false] rfl rfl (by kernel_rfl) (by decide) (fun K hK => ?_)
            have hs50 : w49.cell? ⟨gb455, 0, none⟩ = some (.int .i64 x456000_1) := (blk_cell BK455.out 0).trans rfl
            have hfs50 := blk_frozen BK455.out 0
            have hns50_0 := NB454_455.out
            have hns50_2 := NB460_455.out
            have hms50_0 := NB455_454.out
            have hms50_2 := NB455_460.out
            have hs51 : w49.cell? ⟨gb455, 1, none⟩ = some (.slice none 0 0) := (blk_cell BK455.out 1).trans rfl
            have hfs51 := blk_frozen BK455.out 1
            have hns51_0 := NB454_455.out
            have hns51_2 := NB460_455.out
            have hms51_0 := NB455_454.out
            have hms51_2 := NB455_460.out
            refine skip_ (w1 := ?_) (by rfl) rfl ?_ ?_
            rotate_left
            · go_simp
              rfl
            refine hK.out _ _ ⟨((cell_far (p := ⟨gb455, _, none⟩) NB460_455.out _).trans (((cell_far (p := ⟨gb455, _, none⟩) NB460_455.out _).trans (hHeld.1)))), ((cell_far (p := ⟨gb455, _, none⟩) NB460_455.out _).trans (((cell_far (p := ⟨gb455, _, none⟩) NB460_455.out _).trans (hHeld.2.1)))), ((cell_far (p := ⟨gb455, _, none⟩) NB454_455.out _).trans (((cell_far (p := ⟨gb455, _, none⟩) NB454_455.out _).trans (hHeld.2.2.1)))), ((cell_far (p := ⟨gb455, _, none⟩) NB454_455.out _).trans (((cell_far (p := ⟨gb455, _, none⟩) NB454_455.out _).trans (hHeld.2.2.2))))⟩ (fun hHeld => ?_)
            clear hK K
            refine pure_ (i := 5) (N := some 3) (v := ?_) (a' := ?_) #[true, true, true, true, true, true] rfl rfl (by kernel_rfl) (fun _ _ _ h => h) (Or.inl ⟨by rfl, ?_⟩) ?_ ?_
            rotate_left
            · intro w'
              go_simp
              with_reducible rfl
            rotate_left
            · simp only [Act.put, List.setIfInBounds_toArray, List.set_cons_zero, List.set_cons_succ, i64_w, i32_w]
              rfl
            refine done_ (by kernel_rfl) ?_
            try go_wp2
            refine bodyPost_ret (results_ct rfl _ _ gb455 49 #[.int .i64 t456, .slice Ao46 y463.length co46] (0, 0) _ rfl (by (with_reducible repeat (first | refine blk_drewN ?_ _ | refine blk_drew ?_ | refine blk_alloc ?_ _)); refine blk_put (cs := #[.int .i64 t456, .slice none 0 0]) ?_ 1 _ rfl; (with_reducible repeat (first | refine blk_drewN ?_ _ | refine blk_drew ?_ | refine blk_alloc ?_ _)); refine blk_put (cs := #[.int .i64 x456000_1, .slice none 0 0]) ?_ 0 _ rfl; (with_reducible repeat (first | refine blk_drewN ?_ _ | refine blk_drew ?_ | refine blk_alloc ?_ _)); exact BK455.out) Try.underlying49 rfl (by kernel_rfl)) rfl ?_
            exact ⟨_, by first | rfl | (simp [errW_none, errW_some] <;> rfl) | (simp [*, errW_none, errW_some] <;> rfl), by (with_reducible repeat (first | apply Kd.S_alloc | apply Kd.S_drewN | apply Kd.S_drew)); exact Kd.S_mono (Kd.S_far (p := ⟨gb455, 1, none⟩) (Kd.S_far (p := ⟨gb455, 0, none⟩) (Kd.S_types HO465.out BK455.out (by decide)) (fun _ hk => hk.2) (.int .i64 t456)) (fun _ hk => hk.2) (.slice Ao46 y463.length co46)) (fun _ hk => trivial), by repeat (first | (with_reducible first | exact HB.out | apply below_alloc | apply pw_below_drewN | apply below_drew1 | refine below_set ?_ GE454.out | refine below_set ?_ GE455.out | refine below_set ?_ GE460.out) | exact HB.out)⟩
          · rw [if_neg c39] at H
            exact absurd H (by simp)

end Go.Proofs.Ytngjaajcdbodeaa.All
