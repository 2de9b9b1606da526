-- PRINTED by print.py (a twelfth state) out of the translation. Not trusted: Lean checks it.
import Derived.Test.YthenmlaleobapaaAllx0
import Derived.Test.YthenmlaleobapaaAllx53
namespace Go.Proofs.Ythenmlaleobapaa.All
open Go.RowKit Go.Proofs.YthenmlaleobapaaW.PrintWords Go.Proofs.YthenmlaleobapaaW.PrintLast Go.Proofs.YthenmlaleobapaaW.PrintMore
attribute [local go_sem] max2_int min2_int max_two min_two max_three min_three max_four min_four   -- for this text's walks alone
set_option linter.unusedVariables false
set_option linter.unusedSimpArgs false

/-! ### impl_Deep: function 30 -/
mutual
def impl_Deep.l0 : Nat → Int → Int → Int → List (S77) → Option (Int)
  | 0, _, _, _, _ => none
  | k + 1, x3, x4, x334000, x334001 => if x3 < 12 then ((impl_used.f x334000 x334001 x4).bind fun t334 => (impl_Deep.j1 k x3 x4 t334 x334000 x334001)) else (impl_Deep.j1 k x3 x4 false x334000 x334001)
def impl_Deep.j1 : Nat → Int → Int → Bool → Int → List (S77) → Option (Int)
  | 0, _, _, _, _, _ => none
  | k + 1, x3, x4, x14, x334000, x334001 => if x14 = true then (if 0 ≤ x4 then (if x4 < (x334001.length : Int) then (if (rd_T77 x334001 x4).f1.f0 = true then (some (wrap64 (x3 + 1))) else (if (((rd_T77 x334001 x4).f1.f1).length : Int) = 0 then (some (wrap64 (x3 + 1))) else (if 0 < (((rd_T77 x334001 x4).f1.f1).length : Int) then (impl_Deep.l0 k (wrap64 (x3 + 1)) ((rd_T82 ((rd_T77 x334001 x4).f1.f1) 0).f0) x334000 x334001) else (none)))) else (none)) else (none)) else (some x3)
end
def impl_Deep.f (k : Nat) (a0_0 : Int) (l0_1 : List (S77)) : Option (Int) := impl_Deep.l0 k 0 a0_0 a0_0 l0_1
theorem impl_Deep.mono_l : ∀ k, (∀ y0 y1 y2 y3, LeO (impl_Deep.l0 k y0 y1 y2 y3) (impl_Deep.l0 (k + 1) y0 y1 y2 y3)) ∧ (∀ y0 y1 y2 y3 y4, LeO (impl_Deep.j1 k y0 y1 y2 y3 y4) (impl_Deep.j1 (k + 1) y0 y1 y2 y3 y4))
  | 0 => ⟨fun _ _ _ _ r h => by simp [impl_Deep.l0] at h, fun _ _ _ _ _ r h => by simp [impl_Deep.j1] at h⟩
  | k + 1 => by
    obtain ⟨ih0, ih1⟩ := impl_Deep.mono_l k
    refine ⟨?_, ?_⟩
    · intro y0 y1 y2 y3
      unfold impl_Deep.l0
      repeat' first
      | (with_reducible exact ih0 _ _ _ _)
      | (with_reducible exact ih1 _ _ _ _ _)
      | (with_reducible exact LeO.refl _)
      | (with_reducible exact LeO.none _)
      | (with_reducible refine LeO.ite ?_ ?_)
      | (with_reducible refine LeO.bind ?_ (fun _ => ?_))
      | exact ih0 _ _ _ _
      | exact ih1 _ _ _ _ _
      | exact LeO.none _
      | refine LeO.ite ?_ ?_
      | refine LeO.bind ?_ (fun _ => ?_)
    · intro y0 y1 y2 y3 y4
      unfold impl_Deep.j1
      repeat' first
      | (with_reducible exact ih0 _ _ _ _)
      | (with_reducible exact ih1 _ _ _ _ _)
      | (with_reducible exact LeO.refl _)
      | (with_reducible exact LeO.none _)
      | (with_reducible refine LeO.ite ?_ ?_)
      | (with_reducible refine LeO.bind ?_ (fun _ => ?_))
      | exact ih0 _ _ _ _
      | exact ih1 _ _ _ _ _
      | exact LeO.none _
      | refine LeO.ite ?_ ?_
      | refine LeO.bind ?_ (fun _ => ?_)
theorem impl_Deep.mono : ∀ a0 a1 k, LeO (impl_Deep.f k a0 a1) (impl_Deep.f (k + 1) a0 a1) := by
  intro a0 a1 k
  obtain ⟨ih0, ih1⟩ := impl_Deep.mono_l k
  unfold impl_Deep.f
  repeat' first
      | (with_reducible exact ih0 _ _ _ _)
      | (with_reducible exact ih1 _ _ _ _ _)
      | (with_reducible exact LeO.refl _)
      | (with_reducible exact LeO.none _)
      | (with_reducible refine LeO.ite ?_ ?_)
      | (with_reducible refine LeO.bind ?_ (fun _ => ?_))
      | exact ih0 _ _ _ _
      | exact ih1 _ _ _ _ _
      | exact LeO.none _
      | refine LeO.ite ?_ ?_
      | refine LeO.bind ?_ (fun _ => ?_)
set_option maxHeartbeats 8000000 in
set_option maxRecDepth 100000 in
theorem impl_Deep.calls (k : Nat) (a0_0 : Int) (A0_1 : Option Addr) (c0_1 : Nat) (l0_1 : List (S77)) (r : Int) (w : World) (hr0_1 : Kd.C k77 w A0_1 l0_1.length l0_1) (hc0_1 : l0_1.length ≤ c0_1) (h : impl_Deep.f k a0_0 l0_1 = some r) :
    Calls Try.prog 30 #[.agg #[.int .i64 a0_0, .slice A0_1 l0_1.length c0_1]] w fun e w' => e = .returned (.int .i64 r) ∧ Below w.heap.size w w' := by
  have hu36 := Try.underlying36
  have hu75 := Try.underlying75
  have HR0_1 := Aside0.mk hr0_1
  have HC0_1 := Aside0.mk hc0_1
  clear hr0_1 hc0_1
  have HB := Aside0.mk (Below.refl w.heap.size w)
  have H : (impl_Deep.l0 k 0 a0_0 a0_0 l0_1) = some r := h
  clear h
  have H' := Aside0.mk H
  clear H
  go_enter Try.func30, Try.ntmps30
  go_wp2_with (first | ((with_reducible refine gate_dst (N := 1) rfl ?_); (try (refine gate_guard (by rfl) ?_; dsimp only)); refine box_event ?hg (N := 1) ?hd (cs := #[.int .i64 a0_0, .slice A0_1 l0_1.length c0_1]) (t := 36) ?hr ?_; (case hd => rfl); (case hg => rfl); (case hr => first | (go_simp; done) | (go_simp; rfl)); intro gb333 hg w2 hbox hb; have n0_ := Aside0.mk (below_step (by repeat (first | (with_reducible first | exact HB.out | apply below_alloc | apply pw_below_drewN | apply below_drew1) | exact HB.out)) hb); have n1_ := Aside0.mk (hbox); have n2_ := Aside0.mk ((by rw [hg]; exact (below_size (by repeat (first | (with_reducible first | exact HB.out | apply below_alloc | apply pw_below_drewN | apply below_drew1) | exact HB.out))) : w.heap.size ≤ gb333)); have n3_ := Aside0.mk ((by rw [hg]; exact (below_size (by repeat (first | (with_reducible first | exact HB.out | apply below_alloc | apply pw_below_drewN | apply below_drew1) | exact HB.out))) : w.heap.size ≤ gb333)); clear HB; have HB := n0_; have BK333 := n1_; have GW333 := n2_; have GE333 := n3_; clear n0_ n1_ n2_ n3_; clear hb hbox hg; have hcz3_0 : w2.cell? ⟨gb333, 0, none⟩ = some (.int .i64 a0_0) := (blk_cell BK333.out 0).trans rfl; have hcz3_1 : w2.cell? ⟨gb333, 1, none⟩ = some (.slice A0_1 l0_1.length c0_1) := (blk_cell BK333.out 1).trans rfl; have hfz3_0 := blk_frozen BK333.out 0; have hfz3_1 := blk_frozen BK333.out 1))
  go_loopg [3, 4] k (fun kq v3 v4 w' => ∃ (x3_1 : Int) (x4_1 : Int), v3 = .int .i64 x3_1 ∧ v4 = .int .i64 x4_1 ∧ Aside0 (impl_Deep.l0 kq x3_1 x4_1 a0_0 l0_1 = some r) ∧ Aside0 (kq ≤ k) ∧ Aside0 (w'.heap[gb333]? = some (.cells #[.int .i64 a0_0, (.slice A0_1 l0_1.length c0_1)] 36 (0, 0))) ∧ Aside0 (Below w.heap.size w w'))
  case atStart => exact ⟨(0), (a0_0), (by first | rfl | (simp; done) | (simp [*]; done)), (by first | rfl | (simp; done) | (simp [*]; done)), H', ⟨Nat.le_refl _⟩, ⟨by (with_reducible repeat (first | refine blk_drewN ?_ _ | refine blk_drew ?_ | refine blk_alloc ?_ _)); exact BK333.out⟩, ⟨by repeat (first | (with_reducible first | exact HB.out | apply below_alloc | apply pw_below_drewN | apply below_drew1 | refine below_set ?_ GE333.out) | exact HB.out)⟩⟩
  case round =>
    clear H'
    try clear p2
    try clear c3
    try clear hcz3_0
    try clear hcz3_1
    try clear hfz3_0
    try clear hfz3_1
    obtain ⟨x3_1, x4_1, rfl, rfl, HA, HK1, BK333, HB⟩ := hrel
    cases gk with
    | zero => exact absurd HA.out (by simp [impl_Deep.l0])
    | succ k1 =>
      have H := HA.out
      clear HA
      simp only [impl_Deep.l0] at H
      have HC4 := Aside0.mk H
      clear H
      go_upto_region 3 with (fail)
      go_cut [14] (fun v14 wc => ∃ (kq : Nat) (x14_3 : Bool), v14 = .bool x14_3 ∧ Aside0 (impl_Deep.j1 kq x3_1 x4_1 x14_3 a0_0 l0_1 = some r) ∧ Aside0 (kq ≤ k1) ∧ Aside0 (wc.heap[gb333]? = some (.cells #[.int .i64 a0_0, (.slice A0_1 l0_1.length c0_1)] 36 (0, 0))) ∧ Aside0 (Below w.heap.size w wc))
      case first =>
        have H := HC4.out
        clear HC4
        by_cases c5 : x3_1 < 12
        · rw [if_pos c5] at H
          have c5b0 : decide (x3_1 < 12) = true := decide_eq_true c5
          clear c5
          (first | rw [c5b0] | (simp only [i64_w, i32_w]; rw [c5b0]) | skip)
          replace H := Option.bind_eq_some_iff.mp H
          obtain ⟨t334, A60, H⟩ := H
          replace H : (impl_Deep.j1 k1 x3_1 x4_1 t334 a0_0 l0_1) = some r := H
          have A6 := Aside0.mk A60
          clear A60
          have H' := Aside0.mk H
          clear H
          have hcz7_0 : wr.cell? ⟨gb333, 0, none⟩ = some (.int .i64 a0_0) := (blk_cell BK333.out 0).trans rfl
          have hcz7_1 : wr.cell? ⟨gb333, 1, none⟩ = some (.slice A0_1 l0_1.length c0_1) := (blk_cell BK333.out 1).trans rfl
          have hfz7_0 := blk_frozen BK333.out 0
          have hfz7_1 := blk_frozen BK333.out 1
          go_wp2_with (first | (go_at_call 67; (with_reducible refine (impl_used.calls a0_0 _ _ l0_1 x4_1 t334 _ ?side1 ?side2 A6.out).mono ?_); (case side1 => repeat (first | exact (Kd.C_below HR0_1.out HB.out) | (with_reducible refine Kd.C_alloc ?_ _) | (with_reducible refine Kd.C_drewN ?_ _) | (with_reducible refine Kd.C_drew ?_))); (case side2 => exact HC0_1.out); rintro e w8 ⟨rfl, hb⟩; have n0_ := Aside0.mk (blk_below (g := gb333) (o := .cells #[.int .i64 a0_0, .slice A0_1 l0_1.length c0_1] 36 (0, 0)) (by (with_reducible repeat (first | refine blk_drewN ?_ _ | refine blk_drew ?_ | refine blk_alloc ?_ _)); exact BK333.out) hb); have n1_ := Aside0.mk (below_step (by repeat (first | (with_reducible first | exact HB.out | apply below_alloc | apply pw_below_drewN | apply below_drew1 | refine below_set ?_ GE333.out) | exact HB.out)) hb); clear BK333; clear HB; have BK333 := n0_; have HB := n1_; clear n0_ n1_; (try clear hb); (try clear hb2); (try clear hk); (try clear hi)))
          go_meet
          case rel => exact ⟨_, (t334), (by first | rfl | (simp; done) | (simp [*]; done)), H', ⟨by have := HK1.out; first | omega | exact Nat.le_refl _⟩, ⟨by (with_reducible repeat (first | refine blk_drewN ?_ _ | refine blk_drew ?_ | refine blk_alloc ?_ _)); exact BK333.out⟩, ⟨by repeat (first | (with_reducible first | exact HB.out | apply below_alloc | apply pw_below_drewN | apply below_drew1 | refine below_set ?_ GE333.out) | exact HB.out)⟩⟩
        · rw [if_neg c5] at H
          have c5b0 : decide (x3_1 < 12) = false := decide_eq_false c5
          clear c5
          (first | rw [c5b0] | (simp only [i64_w, i32_w]; rw [c5b0]) | skip)
          have H' := Aside0.mk H
          clear H
          go_wp2
          go_meet
          case rel => exact ⟨_, (false), (by first | rfl | (simp; done) | (simp [*]; done)), H', ⟨by have := HK1.out; first | omega | exact Nat.le_refl _⟩, ⟨by (with_reducible repeat (first | refine blk_drewN ?_ _ | refine blk_drew ?_ | refine blk_alloc ?_ _)); exact BK333.out⟩, ⟨by repeat (first | (with_reducible first | exact HB.out | apply below_alloc | apply pw_below_drewN | apply below_drew1 | refine below_set ?_ GE333.out) | exact HB.out)⟩⟩
      case rest =>
        clear HC4
        try clear p2
        try clear c3
        try clear c5
        try clear c5b0
        try clear hcz3_0
        try clear hcz3_1
        try clear hcz7_0
        try clear hcz7_1
        try clear hfz3_0
        try clear hfz3_1
        try clear hfz7_0
        try clear hfz7_1
        try clear p2
        obtain ⟨kq, x14_3, rfl, HA, HJ3, BK333, HB⟩ := hcut
        cases kq with
        | zero => exact absurd HA.out (by simp [impl_Deep.j1])
        | succ kj3 =>
          have H := HA.out
          clear HA
          simp only [impl_Deep.j1] at H
          by_cases c9 : x14_3 = true
          · subst c9
            have H1 : (if 0 ≤ x4_1 then (if x4_1 < (l0_1.length : Int) then (if (rd_T77 l0_1 x4_1).f1.f0 = true then (some (wrap64 (x3_1 + 1))) else (if (((rd_T77 l0_1 x4_1).f1.f1).length : Int) = 0 then (some (wrap64 (x3_1 + 1))) else (if 0 < (((rd_T77 l0_1 x4_1).f1.f1).length : Int) then (impl_Deep.l0 kj3 (wrap64 (x3_1 + 1)) ((rd_T82 ((rd_T77 l0_1 x4_1).f1.f1) 0).f0) a0_0 l0_1) else (none)))) else (none)) else (none)) = some r := by rw [if_pos rfl] at H; exact H
            clear H
            have H := H1
            clear H1
            by_cases c10 : 0 ≤ x4_1
            · rw [if_pos c10] at H
              have c10b0 : decide (0 ≤ x4_1) = true := decide_eq_true c10
              clear c10
              by_cases c11 : x4_1 < (l0_1.length : Int)
              · rw [if_pos c11] at H
                have c11b0 : decide (x4_1 < (l0_1.length : Int)) = true := decide_eq_true c11
                clear c11
                obtain ⟨bq12, hbq12⟩ : ∃ b_ : Bool, b_ = ((rd_T77 l0_1 x4_1).f1.f0) := ⟨_, rfl⟩
                replace H : (if bq12 = true then (some (wrap64 (x3_1 + 1))) else (if (((rd_T77 l0_1 x4_1).f1.f1).length : Int) = 0 then (some (wrap64 (x3_1 + 1))) else (if 0 < (((rd_T77 l0_1 x4_1).f1.f1).length : Int) then (impl_Deep.l0 kj3 (wrap64 (x3_1 + 1)) ((rd_T82 ((rd_T77 l0_1 x4_1).f1.f1) 0).f0) a0_0 l0_1) else (none)))) = some r := by rw [← hbq12] at H; exact H
                have Nbq12 := Aside0.mk hbq12
                clear hbq12
                by_cases c13 : bq12 = true
                · subst c13
                  have H1 : (some (wrap64 (x3_1 + 1))) = some r := by rw [if_pos rfl] at H; exact H
                  clear H
                  have H := H1
                  clear H1
                  obtain rfl := Option.some.inj H
                  have hcz14_0 : wc.cell? ⟨gb333, 0, none⟩ = some (.int .i64 a0_0) := (blk_cell BK333.out 0).trans rfl
                  have hcz14_1 : wc.cell? ⟨gb333, 1, none⟩ = some (.slice A0_1 l0_1.length c0_1) := (blk_cell BK333.out 1).trans rfl
                  have hfz14_0 := blk_frozen BK333.out 0
                  have hfz14_1 := blk_frozen BK333.out 1
                  have p335 : 0 ≤ (x4_1 : Int) := of_decide_eq_true (by first | (with_reducible assumption) | assumption)
                  have q335 : x4_1 < (l0_1.length : Int) := of_decide_eq_true (by first | (with_reducible assumption) | assumption)
                  obtain ⟨ad335, A335_2, c335_2, e335, hx335_0, hx335_1, hx335_2, hl335_2, hi335_2⟩ := at_T77 HR0_1.out x4_1 p335 q335
                  (try rw [← Nbq12.out] at hx335_0)
                  (try rw [← Nbq12.out] at hx335_1)
                  cases e335
                  replace hx335_0 := (HB.out.cell (World.block_lt_of_cell? w _ hx335_0)).trans hx335_0
                  replace hx335_1 := (HB.out.cell (World.block_lt_of_cell? w _ hx335_1)).trans hx335_1
                  replace hx335_2 := (HB.out.cell (World.block_lt_of_cell? w _ hx335_2)).trans hx335_2
                  have HR335_2 := Aside0.mk hi335_2
                  have HC335_2 := Aside0.mk hl335_2
                  clear hi335_2 hl335_2
                  replace p335 := eq_true p335
                  replace q335 := eq_true q335
                  go_wp2_with (first | ((with_reducible refine gate_dst (N := 5) rfl ?_); (try (refine gate_guard (by rfl) ?_; dsimp only)); refine box_event ?hg (N := 5) ?hd (cs := #[.bool false, .slice none 0 0]) (t := 75) ?hr ?_; (case hd => rfl); (case hg => rfl); (case hr => first | (go_simp; done) | (go_simp; rfl)); intro gb336 hg w15 hbox hb; have n0_ := Aside0.mk (blk_below (g := gb333) (o := .cells #[.int .i64 a0_0, .slice (some ad335) l0_1.length c0_1] 36 (0, 0)) (by (with_reducible repeat (first | refine blk_drewN ?_ _ | refine blk_drew ?_ | refine blk_alloc ?_ _)); exact BK333.out) hb); have n1_ := Aside0.mk (below_step (by repeat (first | (with_reducible first | exact HB.out | apply below_alloc | apply pw_below_drewN | apply below_drew1 | refine below_set ?_ GE333.out) | exact HB.out)) hb); have n2_ := Aside0.mk (hbox); have n3_ := Aside0.mk ((by rw [hg]; exact (below_size (by repeat (first | (with_reducible first | exact HB.out | apply below_alloc | apply pw_below_drewN | apply below_drew1 | refine below_set ?_ GE333.out) | exact HB.out))) : w.heap.size ≤ gb336)); have n4_ := Aside0.mk ((by rw [hg]; exact (below_size (by repeat (first | (with_reducible first | exact HB.out | apply below_alloc | apply pw_below_drewN | apply below_drew1 | refine below_set ?_ GE333.out) | exact HB.out))) : w.heap.size ≤ gb336)); have n5_ := Aside0.mk ((by rw [hg]; exact Nat.ne_of_lt (blk_lt (g := gb333) (o := .cells #[.int .i64 a0_0, .slice (some ad335) l0_1.length c0_1] 36 (0, 0)) (by (with_reducible repeat (first | refine blk_drewN ?_ _ | refine blk_drew ?_ | refine blk_alloc ?_ _)); exact BK333.out)) : gb333 ≠ gb336)); have n6_ := Aside0.mk ((by rw [hg]; exact Nat.ne_of_gt (blk_lt (g := gb333) (o := .cells #[.int .i64 a0_0, .slice (some ad335) l0_1.length c0_1] 36 (0, 0)) (by (with_reducible repeat (first | refine blk_drewN ?_ _ | refine blk_drew ?_ | refine blk_alloc ?_ _)); exact BK333.out)) : gb336 ≠ gb333)); clear BK333; clear HB; have BK333 := n0_; have HB := n1_; have BK336 := n2_; have GW336 := n3_; have GE336 := n4_; have NB333_336 := n5_; have NB336_333 := n6_; clear n0_ n1_ n2_ n3_ n4_ n5_ n6_; clear hb hbox hg; have hnb16 := NB336_333.out; have hnc16 := NB333_336.out; have hcz17_0 : w15.cell? ⟨gb336, 0, none⟩ = some (.bool false) := (blk_cell BK336.out 0).trans rfl; have hcz17_1 : w15.cell? ⟨gb336, 1, none⟩ = some (.slice none 0 0) := (blk_cell BK336.out 1).trans rfl; have hfz17_0 := blk_frozen BK336.out 0; have hfz17_1 := blk_frozen BK336.out 1))
                  go_ret
                  exact ⟨by first | rfl | (simp [errW_none, errW_some] <;> rfl) | (simp [*, errW_none, errW_some] <;> rfl), by repeat (first | (with_reducible first | exact HB.out | apply below_alloc | apply pw_below_drewN | apply below_drew1 | refine below_set ?_ GE333.out | refine below_set ?_ GE336.out) | exact HB.out)⟩
                · replace c13 := Bool.eq_false_iff.mpr c13
                  subst c13
                  have H1 : (if (((rd_T77 l0_1 x4_1).f1.f1).length : Int) = 0 then (some (wrap64 (x3_1 + 1))) else (if 0 < (((rd_T77 l0_1 x4_1).f1.f1).length : Int) then (impl_Deep.l0 kj3 (wrap64 (x3_1 + 1)) ((rd_T82 ((rd_T77 l0_1 x4_1).f1.f1) 0).f0) a0_0 l0_1) else (none))) = some r := by rw [if_neg (show ¬ (false = true) by decide)] at H; exact H
                  clear H
                  have H := H1
                  clear H1
                  by_cases c18 : (((rd_T77 l0_1 x4_1).f1.f1).length : Int) = 0
                  · rw [if_pos c18] at H
                    have c18b0 : ((((rd_T77 l0_1 x4_1).f1.f1).length : Int) == 0) = true := beq_iff_eq.mpr c18
                    have c18b1 : ((((rd_T77 l0_1 x4_1).f1.f1).length : Int) != 0) = false := bne_eq_false_iff_eq.mpr c18
                    clear c18
                    obtain rfl := Option.some.inj H
                    have hcz19_0 : wc.cell? ⟨gb333, 0, none⟩ = some (.int .i64 a0_0) := (blk_cell BK333.out 0).trans rfl
                    have hcz19_1 : wc.cell? ⟨gb333, 1, none⟩ = some (.slice A0_1 l0_1.length c0_1) := (blk_cell BK333.out 1).trans rfl
                    have hfz19_0 := blk_frozen BK333.out 0
                    have hfz19_1 := blk_frozen BK333.out 1
                    have p335 : 0 ≤ (x4_1 : Int) := of_decide_eq_true (by first | (with_reducible assumption) | assumption)
                    have q335 : x4_1 < (l0_1.length : Int) := of_decide_eq_true (by first | (with_reducible assumption) | assumption)
                    obtain ⟨ad335, A335_2, c335_2, e335, hx335_0, hx335_1, hx335_2, hl335_2, hi335_2⟩ := at_T77 HR0_1.out x4_1 p335 q335
                    (try rw [← Nbq12.out] at hx335_0)
                    (try rw [← Nbq12.out] at hx335_1)
                    cases e335
                    replace hx335_0 := (HB.out.cell (World.block_lt_of_cell? w _ hx335_0)).trans hx335_0
                    replace hx335_1 := (HB.out.cell (World.block_lt_of_cell? w _ hx335_1)).trans hx335_1
                    replace hx335_2 := (HB.out.cell (World.block_lt_of_cell? w _ hx335_2)).trans hx335_2
                    have HR335_2 := Aside0.mk hi335_2
                    have HC335_2 := Aside0.mk hl335_2
                    clear hi335_2 hl335_2
                    replace p335 := eq_true p335
                    replace q335 := eq_true q335
                    go_wp2_with (first | ((with_reducible refine gate_dst (N := 5) rfl ?_); (try (refine gate_guard (by rfl) ?_; dsimp only)); refine box_event ?hg (N := 5) ?hd (cs := #[.bool false, .slice none 0 0]) (t := 75) ?hr ?_; (case hd => rfl); (case hg => rfl); (case hr => first | (go_simp; done) | (go_simp; rfl)); intro gb336 hg w20 hbox hb; have n0_ := Aside0.mk (blk_below (g := gb333) (o := .cells #[.int .i64 a0_0, .slice (some ad335) l0_1.length c0_1] 36 (0, 0)) (by (with_reducible repeat (first | refine blk_drewN ?_ _ | refine blk_drew ?_ | refine blk_alloc ?_ _)); exact BK333.out) hb); have n1_ := Aside0.mk (below_step (by repeat (first | (with_reducible first | exact HB.out | apply below_alloc | apply pw_below_drewN | apply below_drew1 | refine below_set ?_ GE333.out) | exact HB.out)) hb); have n2_ := Aside0.mk (hbox); have n3_ := Aside0.mk ((by rw [hg]; exact (below_size (by repeat (first | (with_reducible first | exact HB.out | apply below_alloc | apply pw_below_drewN | apply below_drew1 | refine below_set ?_ GE333.out) | exact HB.out))) : w.heap.size ≤ gb336)); have n4_ := Aside0.mk ((by rw [hg]; exact (below_size (by repeat (first | (with_reducible first | exact HB.out | apply below_alloc | apply pw_below_drewN | apply below_drew1 | refine below_set ?_ GE333.out) | exact HB.out))) : w.heap.size ≤ gb336)); have n5_ := Aside0.mk ((by rw [hg]; exact Nat.ne_of_lt (blk_lt (g := gb333) (o := .cells #[.int .i64 a0_0, .slice (some ad335) l0_1.length c0_1] 36 (0, 0)) (by (with_reducible repeat (first | refine blk_drewN ?_ _ | refine blk_drew ?_ | refine blk_alloc ?_ _)); exact BK333.out)) : gb333 ≠ gb336)); have n6_ := Aside0.mk ((by rw [hg]; exact Nat.ne_of_gt (blk_lt (g := gb333) (o := .cells #[.int .i64 a0_0, .slice (some ad335) l0_1.length c0_1] 36 (0, 0)) (by (with_reducible repeat (first | refine blk_drewN ?_ _ | refine blk_drew ?_ | refine blk_alloc ?_ _)); exact BK333.out)) : gb336 ≠ gb333)); clear BK333; clear HB; have BK333 := n0_; have HB := n1_; have BK336 := n2_; have GW336 := n3_; have GE336 := n4_; have NB333_336 := n5_; have NB336_333 := n6_; clear n0_ n1_ n2_ n3_ n4_ n5_ n6_; clear hb hbox hg; have hnb21 := NB336_333.out; have hnc21 := NB333_336.out; have hcz22_0 : w20.cell? ⟨gb336, 0, none⟩ = some (.bool false) := (blk_cell BK336.out 0).trans rfl; have hcz22_1 : w20.cell? ⟨gb336, 1, none⟩ = some (.slice none 0 0) := (blk_cell BK336.out 1).trans rfl; have hfz22_0 := blk_frozen BK336.out 0; have hfz22_1 := blk_frozen BK336.out 1))
                    go_ret
                    exact ⟨by first | rfl | (simp [errW_none, errW_some] <;> rfl) | (simp [*, errW_none, errW_some] <;> rfl), by repeat (first | (with_reducible first | exact HB.out | apply below_alloc | apply pw_below_drewN | apply below_drew1 | refine below_set ?_ GE333.out | refine below_set ?_ GE336.out) | exact HB.out)⟩
                  · rw [if_neg c18] at H
                    have c18b0 : ((((rd_T77 l0_1 x4_1).f1.f1).length : Int) == 0) = false := beq_eq_false_iff_ne.mpr c18
                    have c18b1 : ((((rd_T77 l0_1 x4_1).f1.f1).length : Int) != 0) = true := bne_iff_ne.mpr c18
                    have c18b2 : ¬ (((rd_T77 l0_1 x4_1).f1.f1) = []) := fun h_ => c18 (by rw [h_]; rfl)
                    by_cases c23 : 0 < (((rd_T77 l0_1 x4_1).f1.f1).length : Int)
                    · rw [if_pos c23] at H
                      have c23b0 : decide (0 < (((rd_T77 l0_1 x4_1).f1.f1).length : Int)) = true := decide_eq_true c23
                      have c23b1 : decide (0 < ((rd_T77 l0_1 x4_1).f1.f1).length) = true := decide_eq_true (by omega)
                      clear c23
                      have H' := Aside0.mk H
                      clear H
                      have hcz24_0 : wc.cell? ⟨gb333, 0, none⟩ = some (.int .i64 a0_0) := (blk_cell BK333.out 0).trans rfl
                      have hcz24_1 : wc.cell? ⟨gb333, 1, none⟩ = some (.slice A0_1 l0_1.length c0_1) := (blk_cell BK333.out 1).trans rfl
                      have hfz24_0 := blk_frozen BK333.out 0
                      have hfz24_1 := blk_frozen BK333.out 1
                      have p335 : 0 ≤ (x4_1 : Int) := of_decide_eq_true (by first | (with_reducible assumption) | assumption)
                      have q335 : x4_1 < (l0_1.length : Int) := of_decide_eq_true (by first | (with_reducible assumption) | assumption)
                      obtain ⟨ad335, A335_2, c335_2, e335, hx335_0, hx335_1, hx335_2, hl335_2, hi335_2⟩ := at_T77 HR0_1.out x4_1 p335 q335
                      (try rw [← Nbq12.out] at hx335_0)
                      (try rw [← Nbq12.out] at hx335_1)
                      cases e335
                      replace hx335_0 := (HB.out.cell (World.block_lt_of_cell? w _ hx335_0)).trans hx335_0
                      replace hx335_1 := (HB.out.cell (World.block_lt_of_cell? w _ hx335_1)).trans hx335_1
                      replace hx335_2 := (HB.out.cell (World.block_lt_of_cell? w _ hx335_2)).trans hx335_2
                      have HR335_2 := Aside0.mk hi335_2
                      have HC335_2 := Aside0.mk hl335_2
                      clear hi335_2 hl335_2
                      replace p335 := eq_true p335
                      replace q335 := eq_true q335
                      go_wp2_with (first | ((with_reducible refine gate_dst (N := 5) rfl ?_); (try (refine gate_guard (by rfl) ?_; dsimp only)); refine box_event ?hg (N := 5) ?hd (cs := #[.bool false, .slice none 0 0]) (t := 75) ?hr ?_; (case hd => rfl); (case hg => rfl); (case hr => first | (go_simp; done) | (go_simp; rfl)); intro gb336 hg w25 hbox hb; have n0_ := Aside0.mk (blk_below (g := gb333) (o := .cells #[.int .i64 a0_0, .slice (some ad335) l0_1.length c0_1] 36 (0, 0)) (by (with_reducible repeat (first | refine blk_drewN ?_ _ | refine blk_drew ?_ | refine blk_alloc ?_ _)); exact BK333.out) hb); have n1_ := Aside0.mk (below_step (by repeat (first | (with_reducible first | exact HB.out | apply below_alloc | apply pw_below_drewN | apply below_drew1 | refine below_set ?_ GE333.out) | exact HB.out)) hb); have n2_ := Aside0.mk (hbox); have n3_ := Aside0.mk ((by rw [hg]; exact (below_size (by repeat (first | (with_reducible first | exact HB.out | apply below_alloc | apply pw_below_drewN | apply below_drew1 | refine below_set ?_ GE333.out) | exact HB.out))) : w.heap.size ≤ gb336)); have n4_ := Aside0.mk ((by rw [hg]; exact (below_size (by repeat (first | (with_reducible first | exact HB.out | apply below_alloc | apply pw_below_drewN | apply below_drew1 | refine below_set ?_ GE333.out) | exact HB.out))) : w.heap.size ≤ gb336)); have n5_ := Aside0.mk ((by rw [hg]; exact Nat.ne_of_lt (blk_lt (g := gb333) (o := .cells #[.int .i64 a0_0, .slice (some ad335) l0_1.length c0_1] 36 (0, 0)) (by (with_reducible repeat (first | refine blk_drewN ?_ _ | refine blk_drew ?_ | refine blk_alloc ?_ _)); exact BK333.out)) : gb333 ≠ gb336)); have n6_ := Aside0.mk ((by rw [hg]; exact Nat.ne_of_gt (blk_lt (g := gb333) (o := .cells #[.int .i64 a0_0, .slice (some ad335) l0_1.length c0_1] 36 (0, 0)) (by (with_reducible repeat (first | refine blk_drewN ?_ _ | refine blk_drew ?_ | refine blk_alloc ?_ _)); exact BK333.out)) : gb336 ≠ gb333)); clear BK333; clear HB; have BK333 := n0_; have HB := n1_; have BK336 := n2_; have GW336 := n3_; have GE336 := n4_; have NB333_336 := n5_; have NB336_333 := n6_; clear n0_ n1_ n2_ n3_ n4_ n5_ n6_; clear hb hbox hg; have hnb26 := NB336_333.out; have hnc26 := NB333_336.out; have hcz27_0 : w25.cell? ⟨gb336, 0, none⟩ = some (.bool false) := (blk_cell BK336.out 0).trans rfl; have hcz27_1 : w25.cell? ⟨gb336, 1, none⟩ = some (.slice none 0 0) := (blk_cell BK336.out 1).trans rfl; have hfz27_0 := blk_frozen BK336.out 0; have hfz27_1 := blk_frozen BK336.out 1; have p337 : 0 ≤ (0 : Int) := (by omega); have q337 : 0 < (((rd_T77 l0_1 x4_1).f1.f1).length : Int) := of_decide_eq_true (by first | (with_reducible assumption) | assumption); obtain ⟨ad337, e337, hx337_0, hx337_1, hx337_2, hx337_3, hx337_4⟩ := at_T82 HR335_2.out 0 p337 q337; cases e337; have qi337 : (0 < ((rd_T77 l0_1 x4_1).f1.f1).length) = True := eq_true (by omega); (try rw [show ((0 : Int)).toNat = 0 from rfl] at hx337_0); (try rw [show 0 * 5 = 0 from rfl] at hx337_0); (try rw [Addr.add_zero'] at hx337_0); (try rw [show ((0 : Int)).toNat = 0 from rfl] at hx337_1); (try rw [show 0 * 5 = 0 from rfl] at hx337_1); (try rw [Addr.add_zero'] at hx337_1); (try rw [show ((0 : Int)).toNat = 0 from rfl] at hx337_2); (try rw [show 0 * 5 = 0 from rfl] at hx337_2); (try rw [Addr.add_zero'] at hx337_2); (try rw [show ((0 : Int)).toNat = 0 from rfl] at hx337_3); (try rw [show 0 * 5 = 0 from rfl] at hx337_3); (try rw [Addr.add_zero'] at hx337_3); (try rw [show ((0 : Int)).toNat = 0 from rfl] at hx337_4); (try rw [show 0 * 5 = 0 from rfl] at hx337_4); (try rw [Addr.add_zero'] at hx337_4); have hn337_0 : ad337.block ≠ gb336 := Nat.ne_of_lt (Nat.lt_of_lt_of_le (by have := World.block_lt_of_cell? _ _ hx337_0; first | rwa [add_block] at this | exact this) GW336.out); have hn337_1 : ad337.block ≠ gb336 := Nat.ne_of_lt (Nat.lt_of_lt_of_le (by have := World.block_lt_of_cell? _ _ hx337_0; first | rwa [add_block] at this | exact this) GW336.out); replace hx337_0 := (HB.out.cell (World.block_lt_of_cell? w _ hx337_0)).trans hx337_0; replace hx337_1 := (HB.out.cell (World.block_lt_of_cell? w _ hx337_1)).trans hx337_1; replace hx337_2 := (HB.out.cell (World.block_lt_of_cell? w _ hx337_2)).trans hx337_2; replace hx337_3 := (HB.out.cell (World.block_lt_of_cell? w _ hx337_3)).trans hx337_3; replace hx337_4 := (HB.out.cell (World.block_lt_of_cell? w _ hx337_4)).trans hx337_4; replace hx337_0 := (cell_far (p := ⟨gb336, 0, none⟩) (by first | (rw [add_block]; exact hn337_0) | (show (Addr.add _ _).block ≠ _; rw [add_block]; exact hn337_0) | exact hn337_0) (.bool false)).trans hx337_0; replace hx337_1 := (cell_far (p := ⟨gb336, 0, none⟩) (by first | (rw [add_block]; exact hn337_0) | (show (Addr.add _ _).block ≠ _; rw [add_block]; exact hn337_0) | exact hn337_0) (.bool false)).trans hx337_1; replace hx337_2 := (cell_far (p := ⟨gb336, 0, none⟩) (by first | (rw [add_block]; exact hn337_0) | (show (Addr.add _ _).block ≠ _; rw [add_block]; exact hn337_0) | exact hn337_0) (.bool false)).trans hx337_2; replace hx337_3 := (cell_far (p := ⟨gb336, 0, none⟩) (by first | (rw [add_block]; exact hn337_0) | (show (Addr.add _ _).block ≠ _; rw [add_block]; exact hn337_0) | exact hn337_0) (.bool false)).trans hx337_3; replace hx337_4 := (cell_far (p := ⟨gb336, 0, none⟩) (by first | (rw [add_block]; exact hn337_0) | (show (Addr.add _ _).block ≠ _; rw [add_block]; exact hn337_0) | exact hn337_0) (.bool false)).trans hx337_4; replace hx337_0 := (cell_far (p := ⟨gb336, 1, none⟩) (by first | (rw [add_block]; exact hn337_1) | (show (Addr.add _ _).block ≠ _; rw [add_block]; exact hn337_1) | exact hn337_1) (.slice (some ad337) ((rd_T77 l0_1 x4_1).f1.f1).length c335_2)).trans hx337_0; replace hx337_1 := (cell_far (p := ⟨gb336, 1, none⟩) (by first | (rw [add_block]; exact hn337_1) | (show (Addr.add _ _).block ≠ _; rw [add_block]; exact hn337_1) | exact hn337_1) (.slice (some ad337) ((rd_T77 l0_1 x4_1).f1.f1).length c335_2)).trans hx337_1; replace hx337_2 := (cell_far (p := ⟨gb336, 1, none⟩) (by first | (rw [add_block]; exact hn337_1) | (show (Addr.add _ _).block ≠ _; rw [add_block]; exact hn337_1) | exact hn337_1) (.slice (some ad337) ((rd_T77 l0_1 x4_1).f1.f1).length c335_2)).trans hx337_2; replace hx337_3 := (cell_far (p := ⟨gb336, 1, none⟩) (by first | (rw [add_block]; exact hn337_1) | (show (Addr.add _ _).block ≠ _; rw [add_block]; exact hn337_1) | exact hn337_1) (.slice (some ad337) ((rd_T77 l0_1 x4_1).f1.f1).length c335_2)).trans hx337_3; replace hx337_4 := (cell_far (p := ⟨gb336, 1, none⟩) (by first | (rw [add_block]; exact hn337_1) | (show (Addr.add _ _).block ≠ _; rw [add_block]; exact hn337_1) | exact hn337_1) (.slice (some ad337) ((rd_T77 l0_1 x4_1).f1.f1).length c335_2)).trans hx337_4; clear hn337_0; clear hn337_1; replace p337 := eq_true p337; replace q337 := eq_true q337))
                      go_roundg kj3
                      case measure => have := HK1.out; have := HJ3.out; omega
                      case rel => exact ⟨(wrap64 (x3_1 + 1)), ((rd_T82 ((rd_T77 l0_1 x4_1).f1.f1) 0).f0), (by first | rfl | (simp; done) | (simp [*]; done)), (by first | rfl | (simp; done) | (simp [*]; done)), H', ⟨by have := HK1.out; have := HJ3.out; omega⟩, ⟨by (with_reducible repeat (first | refine blk_drewN ?_ _ | refine blk_drew ?_ | refine blk_alloc ?_ _)); refine blk_far ?_ NB333_336.out _; (with_reducible repeat (first | refine blk_drewN ?_ _ | refine blk_drew ?_ | refine blk_alloc ?_ _)); refine blk_far ?_ NB333_336.out _; (with_reducible repeat (first | refine blk_drewN ?_ _ | refine blk_drew ?_ | refine blk_alloc ?_ _)); exact BK333.out⟩, ⟨by repeat (first | (with_reducible first | exact HB.out | apply below_alloc | apply pw_below_drewN | apply below_drew1 | refine below_set ?_ GE333.out | refine below_set ?_ GE336.out) | exact HB.out)⟩⟩
                    · rw [if_neg c23] at H
                      exact absurd H (by simp)
              · rw [if_neg c11] at H
                exact absurd H (by simp)
            · rw [if_neg c10] at H
              exact absurd H (by simp)
          · replace c9 := Bool.eq_false_iff.mpr c9
            subst c9
            have H1 : (some x3_1) = some r := by rw [if_neg (show ¬ (false = true) by decide)] at H; exact H
            clear H
            have H := H1
            clear H1
            obtain rfl := Option.some.inj H
            go_wp2
            go_ret
            exact ⟨by first | rfl | (simp [errW_none, errW_some] <;> rfl) | (simp [*, errW_none, errW_some] <;> rfl), by repeat (first | (with_reducible first | exact HB.out | apply below_alloc | apply pw_below_drewN | apply below_drew1 | refine below_set ?_ GE333.out) | exact HB.out)⟩

end Go.Proofs.Ythenmlaleobapaa.All
