-- PRINTED by print.py (a twelfth state) out of the translation. Not trusted: Lean checks it.
import Derived.Test.YthenmlaleobapaaAllx0
import Derived.Test.YthenmlaleobapaaAllx3
namespace Go.Proofs.Ythenmlaleobapaa.All
open Go.RowKit Go.Proofs.YthenmlaleobapaaW.PrintWords Go.Proofs.YthenmlaleobapaaW.PrintLast Go.Proofs.YthenmlaleobapaaW.PrintMore
attribute [local go_sem] max2_int min2_int max_two min_two max_three min_three max_four min_four   -- for this text's walks alone
set_option linter.unusedVariables false
set_option linter.unusedSimpArgs false

/-! ### spec_Deep: function 29 -/
mutual
def spec_Deep.l0 : Nat → Int → Int → Int → List (S77) → Option (Int)
  | 0, _, _, _, _ => none
  | k + 1, x3, x4, x323000, x323001 => if x4 < 12 then ((spec_l1In.f x3 0 (wrap64 ((x323001.length : Int) - 1))).bind fun t323 => (if t323 = true then (if 0 ≤ x3 then (if x3 < (x323001.length : Int) then (spec_Deep.j1 k x3 x4 (!((rd_T77 x323001 x3).f0)) x323000 x323001) else (none)) else (none)) else (spec_Deep.j1 k x3 x4 true x323000 x323001))) else (some 12)
def spec_Deep.j1 : Nat → Int → Int → Bool → Int → List (S77) → Option (Int)
  | 0, _, _, _, _, _ => none
  | k + 1, x3, x4, x26, x323000, x323001 => if x26 = true then (some x4) else (if 0 ≤ x3 then (if x3 < (x323001.length : Int) then (if (rd_T77 x323001 x3).f1.f0 = true then (some (wrap64 (x4 + 1))) else (if (((rd_T77 x323001 x3).f1.f1).length : Int) = 0 then (some (wrap64 (x4 + 1))) else (if 0 < (((rd_T77 x323001 x3).f1.f1).length : Int) then (spec_Deep.l0 k ((rd_T82 ((rd_T77 x323001 x3).f1.f1) 0).f0) (wrap64 (x4 + 1)) x323000 x323001) else (none)))) else (none)) else (none))
end
def spec_Deep.f (k : Nat) (a0_0 : Int) (l0_1 : List (S77)) : Option (Int) := spec_Deep.l0 k a0_0 0 a0_0 l0_1
theorem spec_Deep.mono_l : ∀ k, (∀ y0 y1 y2 y3, LeO (spec_Deep.l0 k y0 y1 y2 y3) (spec_Deep.l0 (k + 1) y0 y1 y2 y3)) ∧ (∀ y0 y1 y2 y3 y4, LeO (spec_Deep.j1 k y0 y1 y2 y3 y4) (spec_Deep.j1 (k + 1) y0 y1 y2 y3 y4))
  | 0 => ⟨fun _ _ _ _ r h => by simp [spec_Deep.l0] at h, fun _ _ _ _ _ r h => by simp [spec_Deep.j1] at h⟩
  | k + 1 => by
    obtain ⟨ih0, ih1⟩ := spec_Deep.mono_l k
    refine ⟨?_, ?_⟩
    · intro y0 y1 y2 y3
      unfold spec_Deep.l0
      repeat' first
      | (with_reducible exact ih0 _ _ _ _)
      | (with_reducible exact ih1 _ _ _ _ _)
      | (with_reducible exact LeO.refl _)
      | (with_reducible exact LeO.none _)
      | (with_reducible refine LeO.ite ?_ ?_)
      | (with_reducible refine LeO.bind ?_ (fun _ => ?_))
      | exact ih0 _ _ _ _
      | exact ih1 _ _ _ _ _
      | exact LeO.none _
      | refine LeO.ite ?_ ?_
      | refine LeO.bind ?_ (fun _ => ?_)
    · intro y0 y1 y2 y3 y4
      unfold spec_Deep.j1
      repeat' first
      | (with_reducible exact ih0 _ _ _ _)
      | (with_reducible exact ih1 _ _ _ _ _)
      | (with_reducible exact LeO.refl _)
      | (with_reducible exact LeO.none _)
      | (with_reducible refine LeO.ite ?_ ?_)
      | (with_reducible refine LeO.bind ?_ (fun _ => ?_))
      | exact ih0 _ _ _ _
      | exact ih1 _ _ _ _ _
      | exact LeO.none _
      | refine LeO.ite ?_ ?_
      | refine LeO.bind ?_ (fun _ => ?_)
theorem spec_Deep.mono : ∀ a0 a1 k, LeO (spec_Deep.f k a0 a1) (spec_Deep.f (k + 1) a0 a1) := by
  intro a0 a1 k
  obtain ⟨ih0, ih1⟩ := spec_Deep.mono_l k
  unfold spec_Deep.f
  repeat' first
      | (with_reducible exact ih0 _ _ _ _)
      | (with_reducible exact ih1 _ _ _ _ _)
      | (with_reducible exact LeO.refl _)
      | (with_reducible exact LeO.none _)
      | (with_reducible refine LeO.ite ?_ ?_)
      | (with_reducible refine LeO.bind ?_ (fun _ => ?_))
      | exact ih0 _ _ _ _
      | exact ih1 _ _ _ _ _
      | exact LeO.none _
      | refine LeO.ite ?_ ?_
      | refine LeO.bind ?_ (fun _ => ?_)
set_option maxHeartbeats 8000000 in
set_option maxRecDepth 100000 in
theorem spec_Deep.calls (k : Nat) (a0_0 : Int) (A0_1 : Option Addr) (c0_1 : Nat) (l0_1 : List (S77)) (r : Int) (w : World) (hr0_1 : Kd.C k77 w A0_1 l0_1.length l0_1) (hc0_1 : l0_1.length ≤ c0_1) (h : spec_Deep.f k a0_0 l0_1 = some r) :
    Calls Try.prog 29 #[.agg #[.int .i64 a0_0, .slice A0_1 l0_1.length c0_1]] w fun e w' => e = .returned (.int .i64 r) ∧ Below w.heap.size w w' := by
  have hu36 := Try.underlying36
  have HR0_1 := Aside0.mk hr0_1
  have HC0_1 := Aside0.mk hc0_1
  clear hr0_1 hc0_1
  have HB := Aside0.mk (Below.refl w.heap.size w)
  have H : (spec_Deep.l0 k a0_0 0 a0_0 l0_1) = some r := h
  clear h
  have H' := Aside0.mk H
  clear H
  go_enter Try.func29, Try.ntmps29
  go_wp2_with (first | ((with_reducible refine gate_dst (N := 1) rfl ?_); (try (refine gate_guard (by rfl) ?_; dsimp only)); refine box_event ?hg (N := 1) ?hd (cs := #[.int .i64 a0_0, .slice A0_1 l0_1.length c0_1]) (t := 36) ?hr ?_; (case hd => rfl); (case hg => rfl); (case hr => first | (go_simp; done) | (go_simp; rfl)); intro gb322 hg w2 hbox hb; have n0_ := Aside0.mk (below_step (by repeat (first | (with_reducible first | exact HB.out | apply below_alloc | apply pw_below_drewN | apply below_drew1) | exact HB.out)) hb); have n1_ := Aside0.mk (hbox); have n2_ := Aside0.mk ((by rw [hg]; exact (below_size (by repeat (first | (with_reducible first | exact HB.out | apply below_alloc | apply pw_below_drewN | apply below_drew1) | exact HB.out))) : w.heap.size ≤ gb322)); have n3_ := Aside0.mk ((by rw [hg]; exact (below_size (by repeat (first | (with_reducible first | exact HB.out | apply below_alloc | apply pw_below_drewN | apply below_drew1) | exact HB.out))) : w.heap.size ≤ gb322)); clear HB; have HB := n0_; have BK322 := n1_; have GW322 := n2_; have GE322 := n3_; clear n0_ n1_ n2_ n3_; clear hb hbox hg; have hcz3_0 : w2.cell? ⟨gb322, 0, none⟩ = some (.int .i64 a0_0) := (blk_cell BK322.out 0).trans rfl; have hcz3_1 : w2.cell? ⟨gb322, 1, none⟩ = some (.slice A0_1 l0_1.length c0_1) := (blk_cell BK322.out 1).trans rfl; have hfz3_0 := blk_frozen BK322.out 0; have hfz3_1 := blk_frozen BK322.out 1))
  go_loopg [3, 4] k (fun kq v3 v4 w' => ∃ (x3_1 : Int) (x4_1 : Int), v3 = .int .i64 x3_1 ∧ v4 = .int .i64 x4_1 ∧ Aside0 (spec_Deep.l0 kq x3_1 x4_1 a0_0 l0_1 = some r) ∧ Aside0 (kq ≤ k) ∧ Aside0 (w'.heap[gb322]? = some (.cells #[.int .i64 a0_0, (.slice A0_1 l0_1.length c0_1)] 36 (0, 0))) ∧ Aside0 (Below w.heap.size w w'))
  case atStart => exact ⟨(a0_0), (0), (by first | rfl | (simp; done) | (simp [*]; done)), (by first | rfl | (simp; done) | (simp [*]; done)), H', ⟨Nat.le_refl _⟩, ⟨by (with_reducible repeat (first | refine blk_drewN ?_ _ | refine blk_drew ?_ | refine blk_alloc ?_ _)); exact BK322.out⟩, ⟨by repeat (first | (with_reducible first | exact HB.out | apply below_alloc | apply pw_below_drewN | apply below_drew1 | refine below_set ?_ GE322.out) | exact HB.out)⟩⟩
  case round =>
    clear H'
    try clear c2
    try clear p2
    try clear hcz3_0
    try clear hcz3_1
    try clear hfz3_0
    try clear hfz3_1
    obtain ⟨x3_1, x4_1, rfl, rfl, HA, HK1, BK322, HB⟩ := hrel
    cases gk with
    | zero => exact absurd HA.out (by simp [spec_Deep.l0])
    | succ k1 =>
      have H := HA.out
      clear HA
      simp only [spec_Deep.l0] at H
      by_cases c4 : x4_1 < 12
      · rw [if_pos c4] at H
        have c4b0 : decide (x4_1 < 12) = true := decide_eq_true c4
        clear c4
        have HC5 := Aside0.mk H
        clear H
        go_upto_region 5 with (fail)
        go_cut [26] (fun v26 wc => ∃ (kq : Nat) (x26_4 : Bool), v26 = .bool x26_4 ∧ Aside0 (spec_Deep.j1 kq x3_1 x4_1 x26_4 a0_0 l0_1 = some r) ∧ Aside0 (kq ≤ k1) ∧ Aside0 (wc.heap[gb322]? = some (.cells #[.int .i64 a0_0, (.slice A0_1 l0_1.length c0_1)] 36 (0, 0))) ∧ Aside0 (Below w.heap.size w wc))
        case first =>
          have H := HC5.out
          clear HC5
          replace H := Option.bind_eq_some_iff.mp H
          obtain ⟨t323, A60, H⟩ := H
          replace H : (if t323 = true then (if 0 ≤ x3_1 then (if x3_1 < (l0_1.length : Int) then (spec_Deep.j1 k1 x3_1 x4_1 (!((rd_T77 l0_1 x3_1).f0)) a0_0 l0_1) else (none)) else (none)) else (spec_Deep.j1 k1 x3_1 x4_1 true a0_0 l0_1)) = some r := H
          have A6 := Aside0.mk A60
          clear A60
          by_cases c7 : t323 = true
          · subst c7
            have H1 : (if 0 ≤ x3_1 then (if x3_1 < (l0_1.length : Int) then (spec_Deep.j1 k1 x3_1 x4_1 (!((rd_T77 l0_1 x3_1).f0)) a0_0 l0_1) else (none)) else (none)) = some r := by rw [if_pos rfl] at H; exact H
            clear H
            have H := H1
            clear H1
            by_cases c8 : 0 ≤ x3_1
            · rw [if_pos c8] at H
              have c8b0 : decide (0 ≤ x3_1) = true := decide_eq_true c8
              clear c8
              (first | rw [c8b0] | (simp only [i64_w, i32_w]; rw [c8b0]) | skip)
              by_cases c9 : x3_1 < (l0_1.length : Int)
              · rw [if_pos c9] at H
                have c9b0 : decide (x3_1 < (l0_1.length : Int)) = true := decide_eq_true c9
                clear c9
                have H' := Aside0.mk H
                clear H
                have hcz10_0 : wr.cell? ⟨gb322, 0, none⟩ = some (.int .i64 a0_0) := (blk_cell BK322.out 0).trans rfl
                have hcz10_1 : wr.cell? ⟨gb322, 1, none⟩ = some (.slice A0_1 l0_1.length c0_1) := (blk_cell BK322.out 1).trans rfl
                have hfz10_0 := blk_frozen BK322.out 0
                have hfz10_1 := blk_frozen BK322.out 1
                go_wp2_with (first | ((with_reducible refine gate_callee (f := 66) rfl ?_); refine goesL_ (some 16) rfl rfl Try.func66 (by kernel_rfl) rfl #[.int .i64 x3_1, .int .i64 0, .int .i64 (wrap64 ((l0_1.length : Int) - 1))] rfl (by (try simp only [List.map_toArray, List.map_cons, List.map_nil]); first | done | rfl | (simp only [List.length_drop, List.length_take]; rfl)) ?_; (with_reducible refine (spec_l1In.calls x3_1 0 (wrap64 ((l0_1.length : Int) - 1)) true _ A6.out).mono ?_); rintro e w' ⟨rfl, ⟨nd, rfl⟩⟩; refine ⟨_, rfl, ?_⟩; have p324 : 0 ≤ (x3_1 : Int) := of_decide_eq_true (by first | (with_reducible assumption) | assumption); have q324 : x3_1 < (l0_1.length : Int) := of_decide_eq_true (by first | (with_reducible assumption) | assumption); obtain ⟨ad324, A324_2, c324_2, e324, hx324_0, hx324_1, hx324_2, hl324_2, hi324_2⟩ := at_T77 HR0_1.out x3_1 p324 q324; cases e324; replace hx324_0 := (HB.out.cell (World.block_lt_of_cell? w _ hx324_0)).trans hx324_0; replace hx324_1 := (HB.out.cell (World.block_lt_of_cell? w _ hx324_1)).trans hx324_1; replace hx324_2 := (HB.out.cell (World.block_lt_of_cell? w _ hx324_2)).trans hx324_2; have HR324_2 := Aside0.mk hi324_2; have HC324_2 := Aside0.mk hl324_2; clear hi324_2 hl324_2; replace p324 := eq_true p324; replace q324 := eq_true q324))
                go_meet
                case rel => exact ⟨_, (!((rd_T77 l0_1 x3_1).f0)), (by first | rfl | (simp; done) | (simp [*]; done)), H', ⟨by have := HK1.out; first | omega | exact Nat.le_refl _⟩, ⟨by (with_reducible repeat (first | refine blk_drewN ?_ _ | refine blk_drew ?_ | refine blk_alloc ?_ _)); exact BK322.out⟩, ⟨by repeat (first | (with_reducible first | exact HB.out | apply below_alloc | apply pw_below_drewN | apply below_drew1 | refine below_set ?_ GE322.out) | exact HB.out)⟩⟩
              · rw [if_neg c9] at H
                exact absurd H (by simp)
            · rw [if_neg c8] at H
              exact absurd H (by simp)
          · replace c7 := Bool.eq_false_iff.mpr c7
            subst c7
            have H1 : (spec_Deep.j1 k1 x3_1 x4_1 true a0_0 l0_1) = some r := by rw [if_neg (show ¬ (false = true) by decide)] at H; exact H
            clear H
            have H := H1
            clear H1
            have H' := Aside0.mk H
            clear H
            have hcz11_0 : wr.cell? ⟨gb322, 0, none⟩ = some (.int .i64 a0_0) := (blk_cell BK322.out 0).trans rfl
            have hcz11_1 : wr.cell? ⟨gb322, 1, none⟩ = some (.slice A0_1 l0_1.length c0_1) := (blk_cell BK322.out 1).trans rfl
            have hfz11_0 := blk_frozen BK322.out 0
            have hfz11_1 := blk_frozen BK322.out 1
            go_wp2_with (first | ((with_reducible refine gate_callee (f := 66) rfl ?_); refine goesL_ (some 16) rfl rfl Try.func66 (by kernel_rfl) rfl #[.int .i64 x3_1, .int .i64 0, .int .i64 (wrap64 ((l0_1.length : Int) - 1))] rfl (by (try simp only [List.map_toArray, List.map_cons, List.map_nil]); first | done | rfl | (simp only [List.length_drop, List.length_take]; rfl)) ?_; (with_reducible refine (spec_l1In.calls x3_1 0 (wrap64 ((l0_1.length : Int) - 1)) false _ A6.out).mono ?_); rintro e w' ⟨rfl, ⟨nd, rfl⟩⟩; refine ⟨_, rfl, ?_⟩))
            go_meet
            case rel => exact ⟨_, (true), (by first | rfl | (simp; done) | (simp [*]; done)), H', ⟨by have := HK1.out; first | omega | exact Nat.le_refl _⟩, ⟨by (with_reducible repeat (first | refine blk_drewN ?_ _ | refine blk_drew ?_ | refine blk_alloc ?_ _)); exact BK322.out⟩, ⟨by repeat (first | (with_reducible first | exact HB.out | apply below_alloc | apply pw_below_drewN | apply below_drew1 | refine below_set ?_ GE322.out) | exact HB.out)⟩⟩
        case rest =>
          clear HC5
          try clear c2
          try clear p2
          try clear c3
          try clear p3
          try clear q3
          try clear hx3
          try clear c4
          try clear c4b0
          try clear c6
          try clear p6
          try clear c7
          try clear c8
          try clear c8b0
          try clear c9
          try clear c9b0
          try clear hcz10_0
          try clear hcz10_1
          try clear hcz11_0
          try clear hcz11_1
          try clear hcz3_0
          try clear hcz3_1
          try clear hfz10_0
          try clear hfz10_1
          try clear hfz11_0
          try clear hfz11_1
          try clear hfz3_0
          try clear hfz3_1
          try clear hx324_0
          try clear hx324_1
          try clear hx324_2
          try clear p2
          try clear p324
          try clear q324
          obtain ⟨kq, x26_4, rfl, HA, HJ4, BK322, HB⟩ := hcut
          cases kq with
          | zero => exact absurd HA.out (by simp [spec_Deep.j1])
          | succ kj4 =>
            have H := HA.out
            clear HA
            simp only [spec_Deep.j1] at H
            by_cases c12 : x26_4 = true
            · subst c12
              have H1 : (some x4_1) = some r := by rw [if_pos rfl] at H; exact H
              clear H
              have H := H1
              clear H1
              obtain rfl := Option.some.inj H
              go_wp2
              go_ret
              exact ⟨by first | rfl | (simp [errW_none, errW_some] <;> rfl) | (simp [*, errW_none, errW_some] <;> rfl), by repeat (first | (with_reducible first | exact HB.out | apply below_alloc | apply pw_below_drewN | apply below_drew1 | refine below_set ?_ GE322.out) | exact HB.out)⟩
            · replace c12 := Bool.eq_false_iff.mpr c12
              subst c12
              have H1 : (if 0 ≤ x3_1 then (if x3_1 < (l0_1.length : Int) then (if (rd_T77 l0_1 x3_1).f1.f0 = true then (some (wrap64 (x4_1 + 1))) else (if (((rd_T77 l0_1 x3_1).f1.f1).length : Int) = 0 then (some (wrap64 (x4_1 + 1))) else (if 0 < (((rd_T77 l0_1 x3_1).f1.f1).length : Int) then (spec_Deep.l0 kj4 ((rd_T82 ((rd_T77 l0_1 x3_1).f1.f1) 0).f0) (wrap64 (x4_1 + 1)) a0_0 l0_1) else (none)))) else (none)) else (none)) = some r := by rw [if_neg (show ¬ (false = true) by decide)] at H; exact H
              clear H
              have H := H1
              clear H1
              by_cases c13 : 0 ≤ x3_1
              · rw [if_pos c13] at H
                have c13b0 : decide (0 ≤ x3_1) = true := decide_eq_true c13
                clear c13
                by_cases c14 : x3_1 < (l0_1.length : Int)
                · rw [if_pos c14] at H
                  have c14b0 : decide (x3_1 < (l0_1.length : Int)) = true := decide_eq_true c14
                  clear c14
                  obtain ⟨bq15, hbq15⟩ : ∃ b_ : Bool, b_ = ((rd_T77 l0_1 x3_1).f1.f0) := ⟨_, rfl⟩
                  replace H : (if bq15 = true then (some (wrap64 (x4_1 + 1))) else (if (((rd_T77 l0_1 x3_1).f1.f1).length : Int) = 0 then (some (wrap64 (x4_1 + 1))) else (if 0 < (((rd_T77 l0_1 x3_1).f1.f1).length : Int) then (spec_Deep.l0 kj4 ((rd_T82 ((rd_T77 l0_1 x3_1).f1.f1) 0).f0) (wrap64 (x4_1 + 1)) a0_0 l0_1) else (none)))) = some r := by rw [← hbq15] at H; exact H
                  have Nbq15 := Aside0.mk hbq15
                  clear hbq15
                  by_cases c16 : bq15 = true
                  · subst c16
                    have H1 : (some (wrap64 (x4_1 + 1))) = some r := by rw [if_pos rfl] at H; exact H
                    clear H
                    have H := H1
                    clear H1
                    obtain rfl := Option.some.inj H
                    have hcz17_0 : wc.cell? ⟨gb322, 0, none⟩ = some (.int .i64 a0_0) := (blk_cell BK322.out 0).trans rfl
                    have hcz17_1 : wc.cell? ⟨gb322, 1, none⟩ = some (.slice A0_1 l0_1.length c0_1) := (blk_cell BK322.out 1).trans rfl
                    have hfz17_0 := blk_frozen BK322.out 0
                    have hfz17_1 := blk_frozen BK322.out 1
                    have p325 : 0 ≤ (x3_1 : Int) := of_decide_eq_true (by first | (with_reducible assumption) | assumption)
                    have q325 : x3_1 < (l0_1.length : Int) := of_decide_eq_true (by first | (with_reducible assumption) | assumption)
                    obtain ⟨ad325, A325_2, c325_2, e325, hx325_0, hx325_1, hx325_2, hl325_2, hi325_2⟩ := at_T77 HR0_1.out x3_1 p325 q325
                    (try rw [← Nbq15.out] at hx325_0)
                    (try rw [← Nbq15.out] at hx325_1)
                    cases e325
                    replace hx325_0 := (HB.out.cell (World.block_lt_of_cell? w _ hx325_0)).trans hx325_0
                    replace hx325_1 := (HB.out.cell (World.block_lt_of_cell? w _ hx325_1)).trans hx325_1
                    replace hx325_2 := (HB.out.cell (World.block_lt_of_cell? w _ hx325_2)).trans hx325_2
                    have HR325_2 := Aside0.mk hi325_2
                    have HC325_2 := Aside0.mk hl325_2
                    clear hi325_2 hl325_2
                    replace p325 := eq_true p325
                    replace q325 := eq_true q325
                    go_wp2
                    go_ret
                    exact ⟨by first | rfl | (simp [errW_none, errW_some] <;> rfl) | (simp [*, errW_none, errW_some] <;> rfl), by repeat (first | (with_reducible first | exact HB.out | apply below_alloc | apply pw_below_drewN | apply below_drew1 | refine below_set ?_ GE322.out) | exact HB.out)⟩
                  · replace c16 := Bool.eq_false_iff.mpr c16
                    subst c16
                    have H1 : (if (((rd_T77 l0_1 x3_1).f1.f1).length : Int) = 0 then (some (wrap64 (x4_1 + 1))) else (if 0 < (((rd_T77 l0_1 x3_1).f1.f1).length : Int) then (spec_Deep.l0 kj4 ((rd_T82 ((rd_T77 l0_1 x3_1).f1.f1) 0).f0) (wrap64 (x4_1 + 1)) a0_0 l0_1) else (none))) = some r := by rw [if_neg (show ¬ (false = true) by decide)] at H; exact H
                    clear H
                    have H := H1
                    clear H1
                    by_cases c18 : (((rd_T77 l0_1 x3_1).f1.f1).length : Int) = 0
                    · rw [if_pos c18] at H
                      have c18b0 : ((((rd_T77 l0_1 x3_1).f1.f1).length : Int) == 0) = true := beq_iff_eq.mpr c18
                      have c18b1 : ((((rd_T77 l0_1 x3_1).f1.f1).length : Int) != 0) = false := bne_eq_false_iff_eq.mpr c18
                      clear c18
                      obtain rfl := Option.some.inj H
                      have hcz19_0 : wc.cell? ⟨gb322, 0, none⟩ = some (.int .i64 a0_0) := (blk_cell BK322.out 0).trans rfl
                      have hcz19_1 : wc.cell? ⟨gb322, 1, none⟩ = some (.slice A0_1 l0_1.length c0_1) := (blk_cell BK322.out 1).trans rfl
                      have hfz19_0 := blk_frozen BK322.out 0
                      have hfz19_1 := blk_frozen BK322.out 1
                      have p325 : 0 ≤ (x3_1 : Int) := of_decide_eq_true (by first | (with_reducible assumption) | assumption)
                      have q325 : x3_1 < (l0_1.length : Int) := of_decide_eq_true (by first | (with_reducible assumption) | assumption)
                      obtain ⟨ad325, A325_2, c325_2, e325, hx325_0, hx325_1, hx325_2, hl325_2, hi325_2⟩ := at_T77 HR0_1.out x3_1 p325 q325
                      (try rw [← Nbq15.out] at hx325_0)
                      (try rw [← Nbq15.out] at hx325_1)
                      cases e325
                      replace hx325_0 := (HB.out.cell (World.block_lt_of_cell? w _ hx325_0)).trans hx325_0
                      replace hx325_1 := (HB.out.cell (World.block_lt_of_cell? w _ hx325_1)).trans hx325_1
                      replace hx325_2 := (HB.out.cell (World.block_lt_of_cell? w _ hx325_2)).trans hx325_2
                      have HR325_2 := Aside0.mk hi325_2
                      have HC325_2 := Aside0.mk hl325_2
                      clear hi325_2 hl325_2
                      replace p325 := eq_true p325
                      replace q325 := eq_true q325
                      have p326 : 0 ≤ (x3_1 : Int) := of_decide_eq_true (by first | (with_reducible assumption) | assumption)
                      have q326 : x3_1 < (l0_1.length : Int) := of_decide_eq_true (by first | (with_reducible assumption) | assumption)
                      obtain ⟨ad326, A326_2, c326_2, e326, hx326_0, hx326_1, hx326_2, hl326_2, hi326_2⟩ := at_T77 HR0_1.out x3_1 p326 q326
                      (try rw [← Nbq15.out] at hx326_0)
                      (try rw [← Nbq15.out] at hx326_1)
                      obtain rfl : ad325 = ad326 := (by injection e326)
                      replace hx326_0 := (HB.out.cell (World.block_lt_of_cell? w _ hx326_0)).trans hx326_0
                      replace hx326_1 := (HB.out.cell (World.block_lt_of_cell? w _ hx326_1)).trans hx326_1
                      replace hx326_2 := (HB.out.cell (World.block_lt_of_cell? w _ hx326_2)).trans hx326_2
                      have HR326_2 := Aside0.mk hi326_2
                      have HC326_2 := Aside0.mk hl326_2
                      clear hi326_2 hl326_2
                      replace p326 := eq_true p326
                      replace q326 := eq_true q326
                      have ea_ := Option.some.inj (hx325_2.symm.trans hx326_2)
                      injection ea_ with ea_ en_ ec_
                      subst ea_
                      subst ec_
                      clear en_
                      go_wp2
                      go_ret
                      exact ⟨by first | rfl | (simp [errW_none, errW_some] <;> rfl) | (simp [*, errW_none, errW_some] <;> rfl), by repeat (first | (with_reducible first | exact HB.out | apply below_alloc | apply pw_below_drewN | apply below_drew1 | refine below_set ?_ GE322.out) | exact HB.out)⟩
                    · rw [if_neg c18] at H
                      have c18b0 : ((((rd_T77 l0_1 x3_1).f1.f1).length : Int) == 0) = false := beq_eq_false_iff_ne.mpr c18
                      have c18b1 : ((((rd_T77 l0_1 x3_1).f1.f1).length : Int) != 0) = true := bne_iff_ne.mpr c18
                      have c18b2 : ¬ (((rd_T77 l0_1 x3_1).f1.f1) = []) := fun h_ => c18 (by rw [h_]; rfl)
                      by_cases c20 : 0 < (((rd_T77 l0_1 x3_1).f1.f1).length : Int)
                      · rw [if_pos c20] at H
                        have c20b0 : decide (0 < (((rd_T77 l0_1 x3_1).f1.f1).length : Int)) = true := decide_eq_true c20
                        have c20b1 : decide (0 < ((rd_T77 l0_1 x3_1).f1.f1).length) = true := decide_eq_true (by omega)
                        clear c20
                        have H' := Aside0.mk H
                        clear H
                        have hcz21_0 : wc.cell? ⟨gb322, 0, none⟩ = some (.int .i64 a0_0) := (blk_cell BK322.out 0).trans rfl
                        have hcz21_1 : wc.cell? ⟨gb322, 1, none⟩ = some (.slice A0_1 l0_1.length c0_1) := (blk_cell BK322.out 1).trans rfl
                        have hfz21_0 := blk_frozen BK322.out 0
                        have hfz21_1 := blk_frozen BK322.out 1
                        have p325 : 0 ≤ (x3_1 : Int) := of_decide_eq_true (by first | (with_reducible assumption) | assumption)
                        have q325 : x3_1 < (l0_1.length : Int) := of_decide_eq_true (by first | (with_reducible assumption) | assumption)
                        obtain ⟨ad325, A325_2, c325_2, e325, hx325_0, hx325_1, hx325_2, hl325_2, hi325_2⟩ := at_T77 HR0_1.out x3_1 p325 q325
                        (try rw [← Nbq15.out] at hx325_0)
                        (try rw [← Nbq15.out] at hx325_1)
                        cases e325
                        replace hx325_0 := (HB.out.cell (World.block_lt_of_cell? w _ hx325_0)).trans hx325_0
                        replace hx325_1 := (HB.out.cell (World.block_lt_of_cell? w _ hx325_1)).trans hx325_1
                        replace hx325_2 := (HB.out.cell (World.block_lt_of_cell? w _ hx325_2)).trans hx325_2
                        have HR325_2 := Aside0.mk hi325_2
                        have HC325_2 := Aside0.mk hl325_2
                        clear hi325_2 hl325_2
                        replace p325 := eq_true p325
                        replace q325 := eq_true q325
                        have p326 : 0 ≤ (x3_1 : Int) := of_decide_eq_true (by first | (with_reducible assumption) | assumption)
                        have q326 : x3_1 < (l0_1.length : Int) := of_decide_eq_true (by first | (with_reducible assumption) | assumption)
                        obtain ⟨ad326, A326_2, c326_2, e326, hx326_0, hx326_1, hx326_2, hl326_2, hi326_2⟩ := at_T77 HR0_1.out x3_1 p326 q326
                        (try rw [← Nbq15.out] at hx326_0)
                        (try rw [← Nbq15.out] at hx326_1)
                        obtain rfl : ad325 = ad326 := (by injection e326)
                        replace hx326_0 := (HB.out.cell (World.block_lt_of_cell? w _ hx326_0)).trans hx326_0
                        replace hx326_1 := (HB.out.cell (World.block_lt_of_cell? w _ hx326_1)).trans hx326_1
                        replace hx326_2 := (HB.out.cell (World.block_lt_of_cell? w _ hx326_2)).trans hx326_2
                        have HR326_2 := Aside0.mk hi326_2
                        have HC326_2 := Aside0.mk hl326_2
                        clear hi326_2 hl326_2
                        replace p326 := eq_true p326
                        replace q326 := eq_true q326
                        have ea_ := Option.some.inj (hx325_2.symm.trans hx326_2)
                        injection ea_ with ea_ en_ ec_
                        subst ea_
                        subst ec_
                        clear en_
                        have p327 : 0 ≤ (x3_1 : Int) := of_decide_eq_true (by first | (with_reducible assumption) | assumption)
                        have q327 : x3_1 < (l0_1.length : Int) := of_decide_eq_true (by first | (with_reducible assumption) | assumption)
                        obtain ⟨ad327, A327_2, c327_2, e327, hx327_0, hx327_1, hx327_2, hl327_2, hi327_2⟩ := at_T77 HR0_1.out x3_1 p327 q327
                        (try rw [← Nbq15.out] at hx327_0)
                        (try rw [← Nbq15.out] at hx327_1)
                        obtain rfl : ad325 = ad327 := (by injection e327)
                        replace hx327_0 := (HB.out.cell (World.block_lt_of_cell? w _ hx327_0)).trans hx327_0
                        replace hx327_1 := (HB.out.cell (World.block_lt_of_cell? w _ hx327_1)).trans hx327_1
                        replace hx327_2 := (HB.out.cell (World.block_lt_of_cell? w _ hx327_2)).trans hx327_2
                        have HR327_2 := Aside0.mk hi327_2
                        have HC327_2 := Aside0.mk hl327_2
                        clear hi327_2 hl327_2
                        replace p327 := eq_true p327
                        replace q327 := eq_true q327
                        have ea_ := Option.some.inj (hx325_2.symm.trans hx327_2)
                        injection ea_ with ea_ en_ ec_
                        subst ea_
                        subst ec_
                        clear en_
                        have p328 : 0 ≤ (0 : Int) := (by omega)
                        have q328 : 0 < (((rd_T77 l0_1 x3_1).f1.f1).length : Int) := of_decide_eq_true (by first | (with_reducible assumption) | assumption)
                        obtain ⟨ad328, e328, hx328_0, hx328_1, hx328_2, hx328_3, hx328_4⟩ := at_T82 HR327_2.out 0 p328 q328
                        cases e328
                        have qi328 : (0 < ((rd_T77 l0_1 x3_1).f1.f1).length) = True := eq_true (by omega)
                        (try rw [show ((0 : Int)).toNat = 0 from rfl] at hx328_0)
                        (try rw [show 0 * 5 = 0 from rfl] at hx328_0)
                        (try rw [Addr.add_zero'] at hx328_0)
                        (try rw [show ((0 : Int)).toNat = 0 from rfl] at hx328_1)
                        (try rw [show 0 * 5 = 0 from rfl] at hx328_1)
                        (try rw [Addr.add_zero'] at hx328_1)
                        (try rw [show ((0 : Int)).toNat = 0 from rfl] at hx328_2)
                        (try rw [show 0 * 5 = 0 from rfl] at hx328_2)
                        (try rw [Addr.add_zero'] at hx328_2)
                        (try rw [show ((0 : Int)).toNat = 0 from rfl] at hx328_3)
                        (try rw [show 0 * 5 = 0 from rfl] at hx328_3)
                        (try rw [Addr.add_zero'] at hx328_3)
                        (try rw [show ((0 : Int)).toNat = 0 from rfl] at hx328_4)
                        (try rw [show 0 * 5 = 0 from rfl] at hx328_4)
                        (try rw [Addr.add_zero'] at hx328_4)
                        replace hx328_0 := (HB.out.cell (World.block_lt_of_cell? w _ hx328_0)).trans hx328_0
                        replace hx328_1 := (HB.out.cell (World.block_lt_of_cell? w _ hx328_1)).trans hx328_1
                        replace hx328_2 := (HB.out.cell (World.block_lt_of_cell? w _ hx328_2)).trans hx328_2
                        replace hx328_3 := (HB.out.cell (World.block_lt_of_cell? w _ hx328_3)).trans hx328_3
                        replace hx328_4 := (HB.out.cell (World.block_lt_of_cell? w _ hx328_4)).trans hx328_4
                        replace p328 := eq_true p328
                        replace q328 := eq_true q328
                        go_wp2
                        go_roundg kj4
                        case measure => have := HK1.out; have := HJ4.out; omega
                        case rel => exact ⟨((rd_T82 ((rd_T77 l0_1 x3_1).f1.f1) 0).f0), (wrap64 (x4_1 + 1)), (by first | rfl | (simp; done) | (simp [*]; done)), (by first | rfl | (simp; done) | (simp [*]; done)), H', ⟨by have := HK1.out; have := HJ4.out; omega⟩, ⟨by (with_reducible repeat (first | refine blk_drewN ?_ _ | refine blk_drew ?_ | refine blk_alloc ?_ _)); exact BK322.out⟩, ⟨by repeat (first | (with_reducible first | exact HB.out | apply below_alloc | apply pw_below_drewN | apply below_drew1 | refine below_set ?_ GE322.out) | exact HB.out)⟩⟩
                      · rw [if_neg c20] at H
                        exact absurd H (by simp)
                · rw [if_neg c14] at H
                  exact absurd H (by simp)
              · rw [if_neg c13] at H
                exact absurd H (by simp)
      · rw [if_neg c4] at H
        have c4b0 : decide (x4_1 < 12) = false := decide_eq_false c4
        clear c4
        obtain rfl := Option.some.inj H
        go_wp2
        go_ret
        exact ⟨by first | rfl | (simp [errW_none, errW_some] <;> rfl) | (simp [*, errW_none, errW_some] <;> rfl), by repeat (first | (with_reducible first | exact HB.out | apply below_alloc | apply pw_below_drewN | apply below_drew1 | refine below_set ?_ GE322.out) | exact HB.out)⟩

end Go.Proofs.Ythenmlaleobapaa.All
